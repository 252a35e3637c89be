/- What the law's row needs of these texts, taken out of them by wip/tool/mini.py: QAt QEndsLaw QRightOf QLevelWalk P175 P67. -/
import Derived.Test.YtkcpanpdipmmmaaMiamdad
import Derived.Test.YtkcpanpdipmmmaaMieajje
import Derived.Test.YtkcpanpdipmmmaaMbmfbam
set_option linter.unusedVariables false
set_option linter.unusedSimpArgs false
namespace Go.Proofs.Ytkcpanpdipmmmaa.H
open Go.RowKit Go.Proofs.YtkcpanpdipmmmaaW.PrintWords Go.Proofs.YtkcpanpdipmmmaaW.PrintLast Go.Proofs.YtkcpanpdipmmmaaW.PrintMore Go.Proofs.Ytkcpanpdipmmmaa.P
theorem infoRowS : (Try.prog.info? 34).map (fun i => (i.zero, i.size, i.bytes)) = some (some (.slice none 0 0), 1, 24) := by kernel_rfl
set_option maxHeartbeats 2000000 in
set_option maxRecDepth 100000 in
theorem at_calls (n0 : Nat) (a0_1 : Bool) (A0_2 : Option Addr) (c0_2 : Nat) (l0_2 : List S74) (A1 : Option Addr) (c1 n1 : Nat) (w : World) (hr0_2 : Kd.C k74 w A0_2 l0_2.length l0_2) (hc0_2 : l0_2.length ≤ c0_2) (h0 : 0 ≤ (n0 : Int)) (h1 : (n0 : Int) ≤ 1000000) (hl : l0_2.length ≤ 500000) (hE0 : ∀ k : Nat, k < l0_2.length → 0 ≤ eFrom (rd_T74 l0_2 k) ∧ eFrom (rd_T74 l0_2 k) < (n0 : Int)) (hE1 : ∀ k : Nat, k < l0_2.length → 0 ≤ eTo (rd_T74 l0_2 k) ∧ eTo (rd_T74 l0_2 k) < (n0 : Int)) :
  Calls Try.prog 101 #[.agg #[.int .i64 (n0 : Int), .bool a0_1, .slice A0_2 l0_2.length c0_2], .slice A1 n1 c1] w fun e w' => ∃ v0_ : Value, e = .returned (.agg #[.int .i64 (n0 : Int), .bool a0_1, .slice A0_2 l0_2.length c0_2, .slice A1 n1 c1, v0_]) ∧ Kd.S (Kd.slice 38 k38) 34 w' w.heap.size (fun _ => True) v0_ (rowsAt l0_2 n0 n0) ∧ Below w.heap.size w w' := by
 have hu24 := Try.underlying24
 have hu118 := Try.underlying118
 have HR0_2 := Aside0.mk hr0_2
 have HC0_2 := Aside0.mk hc0_2
 have HH0 := Aside0.mk h0
 have HH1 := Aside0.mk h1
 have HE0 := Aside0.mk hE0
 have HE1 := Aside0.mk hE1
 have HR0 := Aside0.mk hr0_2
 clear hr0_2 hc0_2 h0 h1 hE0 hE1
 have HB := Aside0.mk (Below.refl w.heap.size w)
 go_enter Try.func101, Try.ntmps101
 go_wp2_with (first | ((with_reducible refine gate_dst (N := 2) rfl ?_); refine box_event ?hg (N := 2) ?hd (cs := #[.int .i64 (n0 : Int), .bool a0_1, .slice A0_2 l0_2.length c0_2]) (t := 24) ?hr ?_; (case hd => rfl); (case hg => rfl); (case hr => first | (go_simp; done) | (go_simp; rfl)); intro gb111 hg w4 hbox hb; have n0_ := Aside0.mk (below_step (by repeat (first | (with_reducible first | exact HB.out | apply below_alloc | apply pw_below_drewN | apply below_drew1) | exact HB.out)) hb); have n1_ := Aside0.mk (hbox); have n2_ := Aside0.mk (Kd.C_below HR0_2.out hb); clear HB HR0_2; have HB := n0_; have BK111 := n1_; have HR0_2 := n2_; clear n0_ n1_ n2_; clear hb hbox hg) | ((with_reducible refine gate_dst (N := 4) rfl ?_); refine box_event ?hg (N := 4) ?hd (cs := #[.int .i64 0, .bool false, .slice none 0 0, .slice none 0 0, .slice none 0 0]) (t := 118) ?hr ?_; (case hd => rfl); (case hg => rfl); (case hr => first | (go_simp; done) | (go_simp; rfl)); intro gb4 hg w5 hbox hb; have GE4 : Aside0 (w.heap.size ≤ gb4) := ⟨by rw [hg]; exact HB.out.size⟩; have n0_ := Aside0.mk (below_step (by repeat (first | (with_reducible first | exact HB.out | apply below_alloc | apply pw_below_drewN | apply below_drew1) | exact HB.out)) hb); have n1_ := Aside0.mk (hbox); have n2_ := Aside0.mk (Kd.C_below HR0_2.out hb); have n3_ := Aside0.mk (blk_below BK111.out hb); clear HB HR0_2 BK111; have HB := n0_; have BK4 := n1_; have HR0_2 := n2_; have BK111 := n3_; clear n0_ n1_ n2_ n3_; clear hb hbox hg) | fail)
 obtain ⟨R0, hR0⟩ : ∃ y_ : List (List S38), y_ = List.replicate (n0 : Int).toNat [] := ⟨_, rfl⟩
 have NR0 := Aside0.mk hR0
 clear hR0
 refine start_ (n := 9) (S := (fun w' => w'.cell? ⟨gb111, 0, none⟩ = some (.int .i64 (n0 : Int)) ∧ w'.cell? ⟨gb111, 1, none⟩ = some (.bool a0_1) ∧ w'.cell? ⟨gb111, 2, none⟩ = some (.slice A0_2 l0_2.length c0_2))) (ds := []) #[false, false, false, false, false, false, false, false, false] (by kernel_rfl) rfl rfl ⟨(blk_cell BK111.out 0).trans rfl, (blk_cell BK111.out 1).trans rfl, (blk_cell BK111.out 2).trans rfl⟩ (fun hHeld => ?_)
 have n0_ := Aside0.mk (below_drew HB.out)
 have n1_ : Aside0 (w5.drew.heap[gb111]? = some (.cells #[.int .i64 (n0 : Int), .bool a0_1, .slice A0_2 l0_2.length c0_2] 24 (0, 0))) := ⟨BK111.out⟩
 have n2_ : Aside0 (w5.drew.heap[gb4]? = some (.cells #[.int .i64 0, .bool false, .slice none 0 0, .slice none 0 0, .slice none 0 0] 118 (0, 0))) := ⟨BK4.out⟩
 clear HB BK111 BK4
 have HB := n0_
 have BK111 := n1_
 have BK4 := n2_
 clear n0_ n1_ n2_
 generalize w5.drew = w6 at BK111 HB BK4 hHeld ⊢
 refine pure_ (i := 1) (N := some 14) (v := ?_) (a' := ?_) #[false, true, false, false, false, false, false, false, false] rfl rfl (by kernel_rfl) (fun _ _ _ h => h) (Or.inl ⟨by rfl, ?_⟩) ?_ ?_
 rotate_left
 ·intro w'
  go_simp
  with_reducible rfl
 rotate_left
 ·simp only [Act.put, List.setIfInBounds_toArray, List.set_cons_zero, List.set_cons_succ, i64_w, i32_w]
  rfl
 refine pure_ (i := 3) (N := some 16) (v := ?_) (a' := ?_) #[false, true, false, true, false, false, false, false, false] rfl rfl (by kernel_rfl) (fun _ _ _ h => h) (Or.inl ⟨by rfl, ?_⟩) ?_ ?_
 rotate_left
 ·intro w'
  go_simp
  with_reducible rfl
 rotate_left
 ·simp only [Act.put, List.setIfInBounds_toArray, List.set_cons_zero, List.set_cons_succ, i64_w, i32_w]
  rfl
 refine take_ (i := 0) (N := some 13) (v := ?_) (a' := ?_) #[true, true, false, true, false, false, false, false, false] rfl rfl (by kernel_rfl) (fun _ _ _ h => h) (Or.inl ⟨by rfl, ?_⟩) hHeld ?_ ?_
 rotate_left
 ·rintro w' ⟨s0, s1, s2⟩
  go_simp
  with_reducible rfl
 rotate_left
 ·simp only [Act.put, List.setIfInBounds_toArray, List.set_cons_zero, List.set_cons_succ, i64_w, i32_w]
  rfl
 refine take_ (i := 4) (N := some 17) (v := ?_) (a' := ?_) #[true, true, false, true, true, false, false, false, false] rfl rfl (by kernel_rfl) (fun _ _ _ h => h) (Or.inl ⟨by rfl, ?_⟩) hHeld ?_ ?_
 rotate_left
 ·rintro w' ⟨s0, s1, s2⟩
  go_simp
  with_reducible rfl
 rotate_left
 ·simp only [Act.put, List.setIfInBounds_toArray, List.set_cons_zero, List.set_cons_succ, i64_w, i32_w]
  rfl
 refine pure_ (i := 2) (N := some 15) (v := ?_) (a' := ?_) #[true, true, true, true, true, false, false, false, false] rfl rfl (by kernel_rfl) (fun _ _ _ h => h) (Or.inl ⟨by rfl, ?_⟩) ?_ ?_
 rotate_left
 ·intro w'
  go_simp
  with_reducible rfl
 rotate_left
 ·simp only [Act.put, List.setIfInBounds_toArray, List.set_cons_zero, List.set_cons_succ, i64_w, i32_w]
  rfl
 refine join_ (σ := Value × Nat) 1 #[true, true, true, true, true, true, true, true, false] (fun s_ => [(18, s_.1), (19, .agg #[.int .i64 (n0 : Int), .bool a0_1, .slice A0_2 l0_2.length c0_2, .slice A1 n1 c1, s_.1]), (5, .pointer (some ⟨s_.2, 0, none⟩))]) (fun s_ w' => (w'.cell? ⟨gb111, 0, none⟩ = some (.int .i64 (n0 : Int)) ∧ w'.cell? ⟨gb111, 1, none⟩ = some (.bool a0_1) ∧ w'.cell? ⟨gb111, 2, none⟩ = some (.slice A0_2 l0_2.length c0_2)) ∧ Kd.S (Kd.slice 38 k38) 34 w' w.heap.size (fun _ => True) s_.1 R0 ∧ w'.heap[gb111]? = some (.cells #[.int .i64 (n0 : Int), .bool a0_1, .slice A0_2 l0_2.length c0_2] 24 (0, 0)) ∧ w'.heap[s_.2]? = some (.cells #[.int .i64 0, .bool false, .slice none 0 0, .slice none 0 0, .slice none 0 0] 118 (0, 0)) ∧ w'.heap[gb4]? = some (.cells #[.int .i64 0, .bool false, .slice none 0 0, .slice none 0 0, .slice none 0 0] 118 (0, 0)) ∧ w.heap.size ≤ s_.2 ∧ gb111 ≠ s_.2 ∧ gb4 ≠ s_.2 ∧ Below w.heap.size w w') ?_ ?_
 rotate_left
 ·intro hCont
  refine two_ (i := 5) (j := 7) (Ni := some 18) (Nj := some 5) #[true, true, true, true, true, true, false, false, false] #[true, true, true, true, true, false, false, true, false] rfl rfl rfl rfl (by kernel_rfl) (by decide) (by decide) (fun K hK => ?_) (fun K hK => ?_)
  ·skip
   refine Kd.S_make_step (Kd.slice 38 k38) _ 34 (by rfl) (N := 18) rfl 116 _ _ rfl (n0 : Int) rfl rfl Try.underlying116 (.slice none 0 0) 24 infoRowS rfl (by decide) (by omega) [] (ok := fun _ => True) (okp := fun _ => True) ⟨_, rfl, Kd.R_nil _ _ _ _ _⟩ (fun _ hk => hk) trivial HH0.out (by have := HH1.out; omega) (Below.refl _ _) (Nat.le_refl _) ?_
   intro v18 w7 ho hb _ _
   rw [← NR0.out] at ho
   obtain ⟨Ao, co, eo⟩ := Kd.S_slice ho
   subst eo
   have n0_ := Aside0.mk (Kd.S_lower ho HB.out.size)
   have n1_ := Aside0.mk (blk_below BK111.out hb)
   have n2_ := Aside0.mk (blk_below BK4.out hb)
   have n3_ := Aside0.mk (below_step HB.out hb)
   clear BK111 BK4 HB ho hb
   have HO := n0_
   have BK111 := n1_
   have BK4 := n2_
   have HB := n3_
   clear n0_ n1_ n2_ n3_
   refine hK.out _ _ ⟨(blk_cell BK111.out 0).trans rfl, (blk_cell BK111.out 1).trans rfl, (blk_cell BK111.out 2).trans rfl⟩ (fun hHeld => ?_)
   clear hK K
   refine norm_ (a' := ?_) ?_ ?_
   rotate_left
   ·show Act.put _ (some 18) _ = _
    simp only [Act.put, List.setIfInBounds_toArray, List.set_cons_zero, List.set_cons_succ, i64_w, i32_w]
    rfl
   refine pure_ (i := 6) (N := some 19) (v := ?_) (a' := ?_) #[true, true, true, true, true, true, true, false, false] rfl rfl (by kernel_rfl) (fun _ _ _ h => h) (Or.inl ⟨by rfl, ?_⟩) ?_ ?_
   rotate_left
   ·intro w'
    go_simp
    with_reducible rfl
   rotate_left
   ·simp only [Act.put, List.setIfInBounds_toArray, List.set_cons_zero, List.set_cons_succ, i64_w, i32_w]
    rfl
   refine one_ (i := 7) (N := some 5) #[true, true, true, true, true, true, true, true, false] rfl rfl (by kernel_rfl) (by decide) (fun K hK => ?_)
   refine box_step ?hg (N := 5) ?hd (cs := #[.int .i64 0, .bool false, .slice none 0 0, .slice none 0 0, .slice none 0 0]) (t := 118) ?hr ?_; (case hd => rfl); (case hg => rfl); (case hr => first | (go_simp; done) | (go_simp; rfl))
   intro gb5 hg w8 hbox hb
   have n0_ := Aside0.mk hbox
   have n1_ := Aside0.mk (blk_below BK111.out hb)
   have n2_ := Aside0.mk (blk_below BK4.out hb)
   have n3_ := Aside0.mk (below_step HB.out hb)
   have n5_ : Aside0 (w.heap.size ≤ gb5) := ⟨by rw [hg]; exact HB.out.size⟩
   have n6_ : Aside0 (gb111 ≠ gb5) := ⟨by rw [hg]; exact Nat.ne_of_lt (blk_lt BK111.out)⟩
   have n7_ : Aside0 (gb4 ≠ gb5) := ⟨by rw [hg]; exact Nat.ne_of_lt (blk_lt BK4.out)⟩
   have n4_ := Aside0.mk (Kd.S_below HO.out hb)
   clear HO
   have HO := n4_
   clear n4_
   clear BK111 BK4 HB hbox hb hg
   have BK5 := n0_
   have BK111 := n1_
   have BK4 := n2_
   have HB := n3_
   have GE5 := n5_
   have NB111 := n6_
   have NB4 := n7_
   clear n0_ n1_ n2_ n3_ n5_ n6_ n7_
   refine hK.out _ _ ⟨(blk_cell BK111.out 0).trans rfl, (blk_cell BK111.out 1).trans rfl, (blk_cell BK111.out 2).trans rfl⟩ (fun hHeld => ?_)
   clear hK K
   refine norm_ (a' := ?_) ?_ ?_
   rotate_left
   ·show Act.put _ (some 5) _ = _
    simp only [Act.put, List.setIfInBounds_toArray, List.set_cons_zero, List.set_cons_succ, i64_w, i32_w]
    rfl
   exact norm_ (by (simp only [putAll, Act.put, List.setIfInBounds_toArray, List.set_cons_zero, List.set_cons_succ]) <;> rfl) (hCont (.slice Ao R0.length co, gb5) _ ⟨hHeld, HO.out, BK111.out, BK5.out, BK4.out, GE5.out, NB111.out, NB4.out, HB.out⟩)
  ·skip
   refine box_step ?hg (N := 5) ?hd (cs := #[.int .i64 0, .bool false, .slice none 0 0, .slice none 0 0, .slice none 0 0]) (t := 118) ?hr ?_; (case hd => rfl); (case hg => rfl); (case hr => first | (go_simp; done) | (go_simp; rfl))
   intro gb5 hg w7 hbox hb
   have n0_ := Aside0.mk hbox
   have n1_ := Aside0.mk (blk_below BK111.out hb)
   have n2_ := Aside0.mk (blk_below BK4.out hb)
   have n3_ := Aside0.mk (below_step HB.out hb)
   have n5_ : Aside0 (w.heap.size ≤ gb5) := ⟨by rw [hg]; exact HB.out.size⟩
   have n6_ : Aside0 (gb111 ≠ gb5) := ⟨by rw [hg]; exact Nat.ne_of_lt (blk_lt BK111.out)⟩
   have n7_ : Aside0 (gb4 ≠ gb5) := ⟨by rw [hg]; exact Nat.ne_of_lt (blk_lt BK4.out)⟩
   clear BK111 BK4 HB hbox hb hg
   have BK5 := n0_
   have BK111 := n1_
   have BK4 := n2_
   have HB := n3_
   have GE5 := n5_
   have NB111 := n6_
   have NB4 := n7_
   clear n0_ n1_ n2_ n3_ n5_ n6_ n7_
   refine hK.out _ _ ⟨(blk_cell BK111.out 0).trans rfl, (blk_cell BK111.out 1).trans rfl, (blk_cell BK111.out 2).trans rfl⟩ (fun hHeld => ?_)
   clear hK K
   refine norm_ (a' := ?_) ?_ ?_
   rotate_left
   ·show Act.put _ (some 5) _ = _
    simp only [Act.put, List.setIfInBounds_toArray, List.set_cons_zero, List.set_cons_succ, i64_w, i32_w]
    rfl
   refine one_ (i := 5) (N := some 18) #[true, true, true, true, true, true, false, true, false] rfl rfl (by kernel_rfl) (by decide) (fun K hK => ?_)
   refine Kd.S_make_step (Kd.slice 38 k38) _ 34 (by rfl) (N := 18) rfl 116 _ _ rfl (n0 : Int) rfl rfl Try.underlying116 (.slice none 0 0) 24 infoRowS rfl (by decide) (by omega) [] (ok := fun _ => True) (okp := fun _ => True) ⟨_, rfl, Kd.R_nil _ _ _ _ _⟩ (fun _ hk => hk) trivial HH0.out (by have := HH1.out; omega) (Below.refl _ _) (Nat.le_refl _) ?_
   intro v18 w8 ho hb _ _
   rw [← NR0.out] at ho
   obtain ⟨Ao, co, eo⟩ := Kd.S_slice ho
   subst eo
   have n0_ := Aside0.mk (Kd.S_lower ho HB.out.size)
   have n1_ := Aside0.mk (blk_below BK111.out hb)
   have n2_ := Aside0.mk (blk_below BK4.out hb)
   have n3_ := Aside0.mk (below_step HB.out hb)
   have n4_ := Aside0.mk (blk_below BK5.out hb)
   clear BK5
   have BK5 := n4_
   clear n4_
   clear BK111 BK4 HB ho hb
   have HO := n0_
   have BK111 := n1_
   have BK4 := n2_
   have HB := n3_
   clear n0_ n1_ n2_ n3_
   refine hK.out _ _ ⟨(blk_cell BK111.out 0).trans rfl, (blk_cell BK111.out 1).trans rfl, (blk_cell BK111.out 2).trans rfl⟩ (fun hHeld => ?_)
   clear hK K
   refine norm_ (a' := ?_) ?_ ?_
   rotate_left
   ·show Act.put _ (some 18) _ = _
    simp only [Act.put, List.setIfInBounds_toArray, List.set_cons_zero, List.set_cons_succ, i64_w, i32_w]
    rfl
   refine pure_ (i := 6) (N := some 19) (v := ?_) (a' := ?_) #[true, true, true, true, true, true, true, true, false] rfl rfl (by kernel_rfl) (fun _ _ _ h => h) (Or.inl ⟨by rfl, ?_⟩) ?_ ?_
   rotate_left
   ·intro w'
    go_simp
    with_reducible rfl
   rotate_left
   ·simp only [Act.put, List.setIfInBounds_toArray, List.set_cons_zero, List.set_cons_succ, i64_w, i32_w]
    rfl
   exact norm_ (by (simp only [putAll, Act.put, List.setIfInBounds_toArray, List.set_cons_zero, List.set_cons_succ]) <;> rfl) (hCont (.slice Ao R0.length co, gb5) _ ⟨hHeld, HO.out, BK111.out, BK5.out, BK4.out, GE5.out, NB111.out, NB4.out, HB.out⟩)
 rintro ⟨v18, gb5⟩ w9 ⟨hHeld, h0_, h1_, h2_, h3_, h4_, h5_, h6_, h7_⟩
 clear BK111 BK4 HB
 have HO := Aside0.mk h0_
 clear h0_
 have BK111 := Aside0.mk h1_
 clear h1_
 have BK5 := Aside0.mk h2_
 clear h2_
 have BK4 := Aside0.mk h3_
 clear h3_
 have GE5 := Aside0.mk h4_
 clear h4_
 have NB111 := Aside0.mk h5_
 clear h5_
 have NB4 := Aside0.mk h6_
 clear h6_
 have HB := Aside0.mk h7_
 clear h7_
 obtain ⟨Ao, co, eo⟩ := Kd.S_slice HO.out
 dsimp only at eo HO BK5 GE5 NB111 NB4
 subst eo
 refine norm_ (a' := ?_) ?_ ?_
 rotate_left
 ·simp only [putAll, Act.put, List.setIfInBounds_toArray, List.set_cons_zero, List.set_cons_succ]
  rfl
 refine one_ (i := 8) (N := none) #[true, true, true, true, true, true, true, true, true] rfl rfl (by kernel_rfl) (by decide) (fun K hK => ?_)
 have hs0 : w9.cell? ⟨gb5, 0, none⟩ = some (.int .i64 0) := (blk_cell BK5.out 0).trans rfl
 have hfs0 := blk_frozen BK5.out 0
 have hs1 : w9.cell? ⟨gb5, 1, none⟩ = some (.bool false) := (blk_cell BK5.out 1).trans rfl
 have hfs1 := blk_frozen BK5.out 1
 have hs2 : w9.cell? ⟨gb5, 2, none⟩ = some (.slice none 0 0) := (blk_cell BK5.out 2).trans rfl
 have hfs2 := blk_frozen BK5.out 2
 have hs3 : w9.cell? ⟨gb5, 3, none⟩ = some (.slice none 0 0) := (blk_cell BK5.out 3).trans rfl
 have hfs3 := blk_frozen BK5.out 3
 have hs4 : w9.cell? ⟨gb5, 4, none⟩ = some (.slice none 0 0) := (blk_cell BK5.out 4).trans rfl
 have hfs4 := blk_frozen BK5.out 4
 have n0_ : Aside0 ((((((w9.setCell ⟨gb5, 0, none⟩ (.int .i64 (n0 : Int))).setCell ⟨gb5, 1, none⟩ (.bool a0_1)).setCell ⟨gb5, 2, none⟩ (.slice A0_2 l0_2.length c0_2)).setCell ⟨gb5, 3, none⟩ (.slice A1 n1 c1)).setCell ⟨gb5, 4, none⟩ (.slice Ao R0.length co)).heap[gb5]? = some (.cells #[.int .i64 (n0 : Int), .bool a0_1, .slice A0_2 l0_2.length c0_2, .slice A1 n1 c1, .slice Ao R0.length co] 118 (0, 0))) := ⟨by
  refine blk_put (cs := #[.int .i64 (n0 : Int), .bool a0_1, .slice A0_2 l0_2.length c0_2, .slice A1 n1 c1, .slice none 0 0]) ?_ 4 _ rfl
  refine blk_put (cs := #[.int .i64 (n0 : Int), .bool a0_1, .slice A0_2 l0_2.length c0_2, .slice none 0 0, .slice none 0 0]) ?_ 3 _ rfl
  refine blk_put (cs := #[.int .i64 (n0 : Int), .bool a0_1, .slice none 0 0, .slice none 0 0, .slice none 0 0]) ?_ 2 _ rfl
  refine blk_put (cs := #[.int .i64 (n0 : Int), .bool false, .slice none 0 0, .slice none 0 0, .slice none 0 0]) ?_ 1 _ rfl
  refine blk_put (cs := #[.int .i64 0, .bool false, .slice none 0 0, .slice none 0 0, .slice none 0 0]) ?_ 0 _ rfl
  exact BK5.out⟩
 have n1_ : Aside0 ((((((w9.setCell ⟨gb5, 0, none⟩ (.int .i64 (n0 : Int))).setCell ⟨gb5, 1, none⟩ (.bool a0_1)).setCell ⟨gb5, 2, none⟩ (.slice A0_2 l0_2.length c0_2)).setCell ⟨gb5, 3, none⟩ (.slice A1 n1 c1)).setCell ⟨gb5, 4, none⟩ (.slice Ao R0.length co)).heap[gb111]? = some (.cells #[.int .i64 (n0 : Int), .bool a0_1, .slice A0_2 l0_2.length c0_2] 24 (0, 0))) := ⟨by
  refine blk_far ?_ NB111.out _
  refine blk_far ?_ NB111.out _
  refine blk_far ?_ NB111.out _
  refine blk_far ?_ NB111.out _
  refine blk_far ?_ NB111.out _
  exact BK111.out⟩
 have n2_ : Aside0 ((((((w9.setCell ⟨gb5, 0, none⟩ (.int .i64 (n0 : Int))).setCell ⟨gb5, 1, none⟩ (.bool a0_1)).setCell ⟨gb5, 2, none⟩ (.slice A0_2 l0_2.length c0_2)).setCell ⟨gb5, 3, none⟩ (.slice A1 n1 c1)).setCell ⟨gb5, 4, none⟩ (.slice Ao R0.length co)).heap[gb4]? = some (.cells #[.int .i64 0, .bool false, .slice none 0 0, .slice none 0 0, .slice none 0 0] 118 (0, 0))) := ⟨by
  refine blk_far ?_ NB4.out _
  refine blk_far ?_ NB4.out _
  refine blk_far ?_ NB4.out _
  refine blk_far ?_ NB4.out _
  refine blk_far ?_ NB4.out _
  exact BK4.out⟩
 have n3_ : Aside0 (Kd.S (Kd.slice 38 k38) 34 (((((w9.setCell ⟨gb5, 0, none⟩ (.int .i64 (n0 : Int))).setCell ⟨gb5, 1, none⟩ (.bool a0_1)).setCell ⟨gb5, 2, none⟩ (.slice A0_2 l0_2.length c0_2)).setCell ⟨gb5, 3, none⟩ (.slice A1 n1 c1)).setCell ⟨gb5, 4, none⟩ (.slice Ao R0.length co)) w.heap.size (fun _ => True) (.slice Ao R0.length co) R0) := ⟨Kd.S_mono (Kd.S_far (p := ⟨gb5, 4, none⟩) (Kd.S_far (p := ⟨gb5, 3, none⟩) (Kd.S_far (p := ⟨gb5, 2, none⟩) (Kd.S_far (p := ⟨gb5, 1, none⟩) (Kd.S_far (p := ⟨gb5, 0, none⟩) (Kd.S_types HO.out BK5.out (by decide)) (fun _ hk => hk.2) (.int .i64 (n0 : Int))) (fun _ hk => hk.2) (.bool a0_1)) (fun _ hk => hk.2) (.slice A0_2 l0_2.length c0_2)) (fun _ hk => hk.2) (.slice A1 n1 c1)) (fun _ hk => hk.2) (.slice Ao R0.length co)) (fun _ _ => trivial)⟩
 have n4_ : Aside0 (Below w.heap.size w (((((w9.setCell ⟨gb5, 0, none⟩ (.int .i64 (n0 : Int))).setCell ⟨gb5, 1, none⟩ (.bool a0_1)).setCell ⟨gb5, 2, none⟩ (.slice A0_2 l0_2.length c0_2)).setCell ⟨gb5, 3, none⟩ (.slice A1 n1 c1)).setCell ⟨gb5, 4, none⟩ (.slice Ao R0.length co))) := ⟨by repeat (first | exact HB.out | refine below_set ?_ GE5.out)⟩
 refine skip_ (w1 := (((((w9.setCell ⟨gb5, 0, none⟩ (.int .i64 (n0 : Int))).setCell ⟨gb5, 1, none⟩ (.bool a0_1)).setCell ⟨gb5, 2, none⟩ (.slice A0_2 l0_2.length c0_2)).setCell ⟨gb5, 3, none⟩ (.slice A1 n1 c1)).setCell ⟨gb5, 4, none⟩ (.slice Ao R0.length co))) (by rfl) rfl ?_ ?_
 ·go_simp
 clear hs0 hfs0 hs1 hfs1 hs2 hfs2 hs3 hfs3 hs4 hfs4
 refine hK.out _ _ ⟨(blk_cell n1_.out 0).trans rfl, (blk_cell n1_.out 1).trans rfl, (blk_cell n1_.out 2).trans rfl⟩ (fun hHeld => ?_)
 clear hK K BK5 BK111 BK4 HO HB hHeld
 have BK5 := n0_
 have BK111 := n1_
 have BK4 := n2_
 have HO := n3_
 have HB := n4_
 clear n0_ n1_ n2_ n3_ n4_
 refine done_ (by kernel_rfl) ?_
 generalize (((((w9.setCell ⟨gb5, 0, none⟩ (.int .i64 (n0 : Int))).setCell ⟨gb5, 1, none⟩ (.bool a0_1)).setCell ⟨gb5, 2, none⟩ (.slice A0_2 l0_2.length c0_2)).setCell ⟨gb5, 3, none⟩ (.slice A1 n1 c1)).setCell ⟨gb5, 4, none⟩ (.slice Ao R0.length co)) = w10 at BK5 BK111 BK4 HO HB ⊢
 go_wp2_with fail
 refine start_ (n := 6) (S := (fun w' => w'.cell? ⟨gb111, 0, none⟩ = some (.int .i64 (n0 : Int)) ∧ w'.cell? ⟨gb111, 1, none⟩ = some (.bool a0_1) ∧ w'.cell? ⟨gb111, 2, none⟩ = some (.slice A0_2 l0_2.length c0_2))) (ds := []) #[false, false, false, false, false, false] (by kernel_rfl) rfl rfl ⟨(blk_cell BK111.out 0).trans rfl, (blk_cell BK111.out 1).trans rfl, (blk_cell BK111.out 2).trans rfl⟩ (fun hHeld => ?_)
 have n0_ := Aside0.mk (below_drew HB.out)
 have n1_ : Aside0 (w10.drew.heap[gb111]? = some (.cells #[.int .i64 (n0 : Int), .bool a0_1, .slice A0_2 l0_2.length c0_2] 24 (0, 0))) := ⟨BK111.out⟩
 have n2_ : Aside0 (w10.drew.heap[gb4]? = some (.cells #[.int .i64 0, .bool false, .slice none 0 0, .slice none 0 0, .slice none 0 0] 118 (0, 0))) := ⟨BK4.out⟩
 have n3_ : Aside0 (w10.drew.heap[gb5]? = some (.cells #[.int .i64 (n0 : Int), .bool a0_1, .slice A0_2 l0_2.length c0_2, .slice A1 n1 c1, .slice Ao R0.length co] 118 (0, 0))) := ⟨BK5.out⟩
 have n4_ := Aside0.mk (Kd.S_drew HO.out)
 clear HB BK111 BK4 BK5 HO
 have HB := n0_
 have BK111 := n1_
 have BK4 := n2_
 have BK5 := n3_
 have HO := n4_
 clear n0_ n1_ n2_ n3_ n4_
 generalize w10.drew = w11 at BK111 HB BK4 BK5 HO hHeld ⊢
 refine take_ (i := 0) (N := some 20) (v := ?_) (a' := ?_) #[true, false, false, false, false, false] rfl rfl (by kernel_rfl) (fun _ _ _ h => h) (Or.inl ⟨by rfl, ?_⟩) hHeld ?_ ?_
 rotate_left
 ·rintro w' ⟨s0, s1, s2⟩
  go_simp
  with_reducible rfl
 rotate_left
 ·simp only [Act.put, List.setIfInBounds_toArray, List.set_cons_zero, List.set_cons_succ, i64_w, i32_w]
  rfl
 refine take_ (i := 2) (N := some 22) (v := ?_) (a' := ?_) #[true, false, true, false, false, false] rfl rfl (by kernel_rfl) (fun _ _ _ h => h) (Or.inl ⟨by rfl, ?_⟩) hHeld ?_ ?_
 rotate_left
 ·rintro w' ⟨s0, s1, s2⟩
  go_simp
  with_reducible rfl
 rotate_left
 ·simp only [Act.put, List.setIfInBounds_toArray, List.set_cons_zero, List.set_cons_succ, i64_w, i32_w]
  rfl
 refine one_ (i := 1) (N := some 21) #[true, true, true, false, false, false] rfl rfl (by kernel_rfl) (by decide) (fun K hK => ?_)
 refine goes_ Try.func141 (by kernel_rfl) rfl #[.agg #[.int .i64 (n0 : Int), .bool a0_1, .slice A0_2 l0_2.length c0_2]] (by rfl) rfl rfl (by (try simp only [List.map_toArray, List.map_cons, List.map_nil]); first | done | rfl) ?_
 refine (leaving_calls (n0 : Int) a0_1 A0_2 c0_2 l0_2 _ (Kd.C_below HR0.out HB.out) HC0_2.out HH0.out HH1.out (by omega) HE0.out).mono ?_
 rintro e w12 ⟨v21, rfl, hS, hb⟩
 refine ⟨_, rfl, ?_⟩
 have n0_ := Aside0.mk (below_step HB.out hb)
 have n1_ := Aside0.mk (blk_below BK111.out hb)
 have n2_ := Aside0.mk (blk_below BK4.out hb)
 have n3_ := Aside0.mk (blk_below BK5.out hb)
 have n4_ := Aside0.mk (Kd.S_below HO.out hb)
 have n5_ := Aside0.mk (Kd.S_lower hS HB.out.size)
 clear HB BK111 BK4 BK5 HO hS hb
 have HB := n0_
 have BK111 := n1_
 have BK4 := n2_
 have BK5 := n3_
 have HO := n4_
 have Hv21 := n5_
 clear n0_ n1_ n2_ n3_ n4_ n5_
 obtain ⟨Av21, cv21, ev21⟩ := Kd.S_slice Hv21.out
 subst ev21
 refine hK.out _ _ ⟨(blk_cell BK111.out 0).trans rfl, (blk_cell BK111.out 1).trans rfl, (blk_cell BK111.out 2).trans rfl⟩ (fun hHeld => ?_)
 clear hK K
 refine norm_ (a' := ?_) ?_ ?_
 rotate_left
 ·show Act.put _ (some 21) _ = _
  simp only [Act.put, List.setIfInBounds_toArray, List.set_cons_zero, List.set_cons_succ, i64_w, i32_w]
  rfl
 refine one_ (i := 3) (N := some 23) #[true, true, true, true, false, false] rfl rfl (by kernel_rfl) (by decide) (fun K hK => ?_)
 refine goes_ Try.func142 (by kernel_rfl) rfl #[.agg #[.int .i64 (n0 : Int), .bool a0_1, .slice A0_2 l0_2.length c0_2]] (by rfl) rfl rfl (by (try simp only [List.map_toArray, List.map_cons, List.map_nil]); first | done | rfl) ?_
 refine (coming_calls (n0 : Int) a0_1 A0_2 c0_2 l0_2 _ (Kd.C_below HR0.out HB.out) HC0_2.out HH0.out HH1.out (by omega) HE1.out).mono ?_
 rintro e w13 ⟨v23, rfl, hS, hb⟩
 refine ⟨_, rfl, ?_⟩
 have n0_ := Aside0.mk (below_step HB.out hb)
 have n1_ := Aside0.mk (blk_below BK111.out hb)
 have n2_ := Aside0.mk (blk_below BK4.out hb)
 have n3_ := Aside0.mk (blk_below BK5.out hb)
 have n4_ := Aside0.mk (Kd.S_below HO.out hb)
 have n5_ := Aside0.mk (Kd.S_lower hS HB.out.size)
 have m_ := Aside0.mk (Kd.S_below Hv21.out hb)
 clear Hv21
 have Hv21 := m_
 clear m_
 clear HB BK111 BK4 BK5 HO hS hb
 have HB := n0_
 have BK111 := n1_
 have BK4 := n2_
 have BK5 := n3_
 have HO := n4_
 have Hv23 := n5_
 clear n0_ n1_ n2_ n3_ n4_ n5_
 obtain ⟨Av23, cv23, ev23⟩ := Kd.S_slice Hv23.out
 subst ev23
 refine hK.out _ _ ⟨(blk_cell BK111.out 0).trans rfl, (blk_cell BK111.out 1).trans rfl, (blk_cell BK111.out 2).trans rfl⟩ (fun hHeld => ?_)
 clear hK K
 refine norm_ (a' := ?_) ?_ ?_
 rotate_left
 ·show Act.put _ (some 23) _ = _
  simp only [Act.put, List.setIfInBounds_toArray, List.set_cons_zero, List.set_cons_succ, i64_w, i32_w]
  rfl
 refine pure_ (i := 4) (N := some 6) (v := ?_) (a' := ?_) #[true, true, true, true, true, false] rfl rfl (by kernel_rfl) (fun _ _ _ h => h) (Or.inl ⟨by rfl, ?_⟩) ?_ ?_
 rotate_left
 ·intro w'
  go_simp
  with_reducible rfl
 rotate_left
 ·simp only [Act.put, List.setIfInBounds_toArray, List.set_cons_zero, List.set_cons_succ, i64_w, i32_w]
  rfl
 refine pure_ (i := 5) (N := some 7) (v := ?_) (a' := ?_) #[true, true, true, true, true, true] rfl rfl (by kernel_rfl) (fun _ _ _ h => h) (Or.inl ⟨by rfl, ?_⟩) ?_ ?_
 rotate_left
 ·intro w'
  go_simp
  with_reducible rfl
 rotate_left
 ·simp only [Act.put, List.setIfInBounds_toArray, List.set_cons_zero, List.set_cons_succ, i64_w, i32_w]
  rfl
 refine done_ (by kernel_rfl) ?_
 go_wp2_with fail
 have HR0' : Aside0 (R0 = rowsAt l0_2 n0 0) := ⟨by rw [NR0.out, rowsAt_zero, Int.toNat_natCast]⟩
 have hlR : R0.length = n0 := by rw [HR0'.out, rowsAt_len]
 rw [hlR] at HO BK5 ⊢
 rw [HR0'.out] at HO
 simp only [Int.toNat_natCast] at Hv21 Hv23 ⊢
 clear hHeld
 obtain ⟨L0, hL0⟩ : ∃ L, L = lsAt eFrom l0_2 n0 l0_2.length := ⟨_, rfl⟩
 obtain ⟨L1, hL1⟩ : ∃ L, L = lsAt eTo l0_2 n0 l0_2.length := ⟨_, rfl⟩
 have hn0 : L0.length = n0 := by rw [hL0, lsAt_len]
 have hn1 : L1.length = n0 := by rw [hL1, lsAt_len]
 rw [← hL0, hn0] at Hv21 ⊢
 rw [← hL1, hn1] at Hv23 ⊢
 have HL0 := Aside0.mk hL0
 have HL1 := Aside0.mk hL1
 clear hL0 hL1
 clear HR0' hlR HR0_2
 have hn6 : n0 ≤ 1000000 := by have := HH1.out; omega
 go_loopw [26] (fun v26 w' => ∃ k : Nat, k ≤ n0 ∧ v26 = .int .i64 k ∧ Aside0 (Kd.S (Kd.slice 38 k38) 34 w' w.heap.size (fun _ => True) (.slice Ao n0 co) (rowsAt l0_2 n0 k)) ∧ Aside0 (w'.heap[gb111]? = some (.cells #[.int .i64 (n0 : Int), .bool a0_1, .slice A0_2 l0_2.length c0_2] 24 (0, 0))) ∧ Aside0 (w'.heap[gb4]? = some (.cells #[.int .i64 0, .bool false, .slice none 0 0, .slice none 0 0, .slice none 0 0] 118 (0, 0))) ∧ Aside0 (w'.heap[gb5]? = some (.cells #[.int .i64 (n0 : Int), .bool a0_1, .slice A0_2 l0_2.length c0_2, .slice A1 n1 c1, .slice Ao n0 co] 118 (0, 0))) ∧ Aside0 (Kd.S (Kd.slice 3 (Kd.int .i64)) 25 w' w.heap.size (fun _ => True) (.slice Av21 n0 cv21) L0) ∧ Aside0 (Kd.S (Kd.slice 3 (Kd.int .i64)) 25 w' w.heap.size (fun _ => True) (.slice Av23 n0 cv23) L1) ∧ Aside0 (Below w.heap.size w w')) (fun v26 _ => n0 - (intOf v26).toNat)
 case atStart => exact ⟨0, Nat.zero_le _, rfl, HO, BK111, BK4, BK5, Hv21, Hv23, HB⟩
 case round =>
  clear HO BK111 BK4 BK5 Hv21 Hv23 HB
  obtain ⟨k, hk, rfl, HO, BK111, BK4, BK5, Hv21, Hv23, HB⟩ := hrel
  by_cases hlt : k < n0
  ·have pk : 0 ≤ ((k : Nat) : Int) := by omega
   have qk : ((k : Nat) : Int) < (n0 : Int) := by omega
   have c27 : decide ((k : Int) < (n0 : Int)) = true := decide_eq_true qk
   obtain ⟨ad0, AA0, cc0, e_, hx_, hl_, _⟩ := at_L7 (Kd.S_reads' Hv21.out).2.2 (k : Int) pk (by rw [hn0]; omega)
   cases e_
   obtain ⟨ce_, hce_, hM_, hcc_⟩ := Kd.S_get Hv21.out [] (k : Int) pk qk
   obtain ⟨ve_, rfl, ge_⟩ := hM_
   have hv_ := hcc_ 0 _ rfl
   rw [Nat.add_zero, show ((Kd.slice 3 (Kd.int .i64))).sz = 1 from rfl, Nat.mul_one] at hv_
   replace hv_ := Option.some.inj (hv_.symm.trans hx_)
   rw [hv_] at ge_
   obtain ⟨LL0, hLL0⟩ : ∃ L, L = rd_L7 L0 (k : Int) := ⟨_, rfl⟩
   have HLL0 : Aside0 (Kd.R (Kd.int .i64) 3 wr w.heap.size (fun _ => True) (.slice AA0 LL0.length cc0) LL0) := ⟨by rw [hLL0]; exact Kd.R_mono ge_ (fun _ _ => trivial)⟩
   rw [← hLL0] at hx_
   simp only [Int.toNat_natCast] at hx_
   have HELL0 := Aside0.mk hLL0
   clear ge_ hv_ hcc_ hce_ hl_ hLL0
   have hxLL0 := hx_
   clear hx_
   obtain ⟨go, co2, eo, gbase, glt, cl, HG⟩ := Kd.S_form HO.out (by rw [rowsAt_len]; omega)
   rw [rowsAt_len] at eo
   injection eo with ea _ ec
   subst ea
   subst ec
   have GBO := Aside0.mk gbase
   clear gbase glt HG
   have HLE0 : Aside0 (LL0.length ≤ 500000) := ⟨by rw [HELL0.out, HL0.out]; exact Nat.le_trans (lsAt_row _ _ _ _ _) hl⟩
   go_wp2_with fail
   have hLL0 := HLE0.out
   obtain ⟨wo1, hwo1⟩ : ∃ x_ : World, x_ = wr := ⟨_, rfl⟩
   subst hwo1
   go_loopw [34] (fun v_ w' => ∃ j : Nat, j ≤ LL0.length ∧ v_ = .int .i64 j ∧ Aside0 (Kd.S (Kd.slice 38 k38) 34 w' w.heap.size (fun _ => True) (.slice (some ⟨go, 0, none⟩) n0 co) ((rowsAt l0_2 n0 k).set k (([] : List S38) ++ (LL0.take j).map (fun i => (⟨i, false⟩ : S38))))) ∧ Aside0 (w'.heap[gb111]? = some (.cells #[.int .i64 (n0 : Int), .bool a0_1, .slice A0_2 l0_2.length c0_2] 24 (0, 0))) ∧ Aside0 (w'.heap[gb4]? = some (.cells #[.int .i64 0, .bool false, .slice none 0 0, .slice none 0 0, .slice none 0 0] 118 (0, 0))) ∧ Aside0 (w'.heap[gb5]? = some (.cells #[.int .i64 (n0 : Int), .bool a0_1, .slice A0_2 l0_2.length c0_2, .slice A1 n1 c1, .slice (some ⟨go, 0, none⟩) n0 co] 118 (0, 0))) ∧ Aside0 (Kd.S (Kd.slice 3 (Kd.int .i64)) 25 w' w.heap.size (fun _ => True) (.slice (some ad0) n0 cv21) L0) ∧ Aside0 (Kd.S (Kd.slice 3 (Kd.int .i64)) 25 w' w.heap.size (fun _ => True) (.slice Av23 n0 cv23) L1) ∧ Aside0 (Kd.R (Kd.int .i64) 3 w' w.heap.size (fun _ => True) (.slice AA0 LL0.length cc0) LL0) ∧ Aside0 (Below w.heap.size w w')) (fun v_ _ => LL0.length - (intOf v_).toNat)
   case atStart => exact ⟨0, Nat.zero_le _, rfl, ⟨by rw [List.take_zero, List.map_nil, List.append_nil, rowsAt_self l0_2 n0 k hlt]; exact HO.out⟩, BK111, BK4, BK5, Hv21, Hv23, HLL0, HB⟩
   case round =>
    clear HO BK111 BK4 BK5 Hv21 Hv23 HLL0 HB
    obtain ⟨j, hj, rfl, HO, BK111, BK4, BK5, Hv21, Hv23, HLL0, HB⟩ := hrel
    by_cases hltj : j < LL0.length
    ·have pj : 0 ≤ ((j : Nat) : Int) := by omega
     have qj : ((j : Nat) : Int) < (LL0.length : Int) := by omega
     have cj : decide ((j : Int) < (LL0.length : Int)) = true := decide_eq_true qj
     obtain ⟨adj, eadj, hxj⟩ := Kd.at_int (Kd.R_reads' HLL0.out).2.2 (j : Int) pj qj
     cases eadj
     simp only [Int.toNat_natCast] at hxj
     have HST := Aside0.mk (row_step ([] : List S38) LL0 false j hltj)
     obtain ⟨xj, hxv⟩ : ∃ x_, x_ = rd LL0 (j : Int) := ⟨_, rfl⟩
     obtain ⟨RW, hRW⟩ : ∃ r_, r_ = (([] : List S38) ++ (LL0.take j).map (fun i => (⟨i, false⟩ : S38))) := ⟨_, rfl⟩
     have HRL : Aside0 (RW.length ≤ 1000000) := ⟨by rw [hRW]; simp; have := HLE0.out; omega⟩
     rw [← hRW, ← hxv] at HST
     obtain ⟨RW2, hRW2⟩ : ∃ r_, r_ = (([] : List S38) ++ (LL0.take (j + 1)).map (fun i => (⟨i, false⟩ : S38))) := ⟨_, rfl⟩
     rw [← hRW2] at HST
     have HRW2 := Aside0.mk hRW2
     clear hRW2
     rw [← hxv] at hxj
     rw [← hRW] at HO
     have HRW := Aside0.mk hRW
     have HXV := Aside0.mk hxv
     clear hRW hxv
     obtain ⟨oki, c_, _, hM_, hcc_, _, _, hH_⟩ := Kd.S_elem HO.out [] (k : Int) pk qk
     obtain ⟨vr, rfl, hR_⟩ := hM_
     rw [show ((rowsAt l0_2 n0 k).set k RW).getD (k : Int).toNat [] = RW from rd_set (rowsAt l0_2 n0 k) k RW (by rw [rowsAt_len]; exact hlt)] at hR_
     obtain ⟨Ar, cr, er⟩ := Kd.R_slice hR_
     subst er
     have hx4 := hcc_ 0 _ rfl
     rw [show ((Kd.slice 38 k38)).sz = 1 from rfl, Nat.mul_one, Nat.add_zero, Int.toNat_natCast] at hx4
     have UU := Aside0.mk hR_
     have HH := Aside0.mk hH_
     clear hcc_ hR_ hH_
     have hx5 : wr.cell? ⟨gb5, 4, none⟩ = some (.slice (some ⟨go, 0, none⟩) n0 co) := (blk_cell BK5.out 4).trans rfl
     go_wp2_with fail
     refine start_ (n := 14) (S := fun w' => w'.cell? ⟨gb5, 4, none⟩ = some (.slice (some ⟨go, 0, none⟩) n0 co) ∧ w'.cell? ⟨go, k, none⟩ = some (.slice Ar RW.length cr)) (ds := [13]) #[false, false, false, false, false, false, false, false, false, false, false, false, false, false] (by kernel_rfl) rfl rfl ⟨hx5, hx4⟩ (fun hHeld => ?_)
     have m0_ := Aside0.mk (below_drew HB.out)
     have m1_ := Aside0.mk ((show wr.drew.heap[gb111]? = _ from BK111.out))
     have m2_ := Aside0.mk ((show wr.drew.heap[gb4]? = _ from BK4.out))
     have m3_ := Aside0.mk ((show wr.drew.heap[gb5]? = _ from BK5.out))
     have m4_ := Aside0.mk (Kd.S_drew Hv21.out)
     have m5_ := Aside0.mk (Kd.S_drew Hv23.out)
     have m6_ := Aside0.mk (Kd.R_drew HLL0.out)
     have m7_ := Aside0.mk (Kd.R_drew UU.out)
     have m8_ := Aside0.mk (Kd.H_drew HH.out)
     clear HB BK111 BK4 BK5 Hv21 Hv23 HLL0 UU HH
     have HB := m0_
     clear m0_
     have BK111 := m1_
     clear m1_
     have BK4 := m2_
     clear m2_
     have BK5 := m3_
     clear m3_
     have Hv21 := m4_
     clear m4_
     have Hv23 := m5_
     clear m5_
     have HLL0 := m6_
     clear m6_
     have UU := m7_
     clear m7_
     have HH := m8_
     clear m8_
     clear HO hxj hx5 hx4
     generalize wr.drew = w14 at HB BK111 BK4 BK5 Hv21 Hv23 HLL0 UU HH hHeld ⊢
     refine pure_ (i := 0) (N := some 38) (v := ?_) (a' := ?_) #[true, false, false, false, false, false, false, false, false, false, false, false, false, false] rfl rfl (by kernel_rfl) (fun _ _ _ h => h) (Or.inl ⟨by rfl, ?_⟩) ?_ ?_
     rotate_left
     ·intro w'
      go_simp
      with_reducible rfl
     rotate_left
     ·simp only [Act.put, List.setIfInBounds_toArray, List.set_cons_zero, List.set_cons_succ, i64_w, i32_w]
      rfl
     refine pure_ (i := 2) (N := some 40) (v := ?_) (a' := ?_) #[true, false, true, false, false, false, false, false, false, false, false, false, false, false] rfl rfl (by kernel_rfl) (fun _ _ _ h => h) (Or.inl ⟨by rfl, ?_⟩) ?_ ?_
     rotate_left
     ·intro w'
      go_simp
      with_reducible rfl
     rotate_left
     ·simp only [Act.put, List.setIfInBounds_toArray, List.set_cons_zero, List.set_cons_succ, i64_w, i32_w]
      rfl
     refine pure_ (i := 3) (N := some 41) (v := ?_) (a' := ?_) #[true, false, true, true, false, false, false, false, false, false, false, false, false, false] rfl rfl (by kernel_rfl) (fun _ _ _ h => h) (Or.inl ⟨by rfl, ?_⟩) ?_ ?_
     rotate_left
     ·intro w'
      go_simp
      with_reducible rfl
     rotate_left
     ·simp only [Act.put, List.setIfInBounds_toArray, List.set_cons_zero, List.set_cons_succ, i64_w, i32_w]
      rfl
     refine pure_ (i := 5) (N := some 43) (v := ?_) (a' := ?_) #[true, false, true, true, false, true, false, false, false, false, false, false, false, false] rfl rfl (by kernel_rfl) (fun _ _ _ h => h) (Or.inl ⟨by rfl, ?_⟩) ?_ ?_
     rotate_left
     ·intro w'
      go_simp
      with_reducible rfl
     rotate_left
     ·simp only [Act.put, List.setIfInBounds_toArray, List.set_cons_zero, List.set_cons_succ, i64_w, i32_w]
      rfl
     refine pure_ (i := 8) (N := some 46) (v := ?_) (a' := ?_) #[true, false, true, true, false, true, false, false, true, false, false, false, false, false] rfl rfl (by kernel_rfl) (fun _ _ _ h => h) (Or.inl ⟨by rfl, ?_⟩) ?_ ?_
     rotate_left
     ·intro w'
      go_simp
      with_reducible rfl
     rotate_left
     ·simp only [Act.put, List.setIfInBounds_toArray, List.set_cons_zero, List.set_cons_succ, i64_w, i32_w]
      rfl
     refine pure_ (i := 9) (N := some 47) (v := ?_) (a' := ?_) #[true, false, true, true, false, true, false, false, true, true, false, false, false, false] rfl rfl (by kernel_rfl) (fun _ _ _ h => h) (Or.inl ⟨by rfl, ?_⟩) ?_ ?_
     rotate_left
     ·intro w'
      go_simp
      with_reducible rfl
     rotate_left
     ·simp only [Act.put, List.setIfInBounds_toArray, List.set_cons_zero, List.set_cons_succ, i64_w, i32_w]
      rfl
     refine take_ (i := 1) (N := some 39) (v := ?_) (a' := ?_) #[true, true, true, true, false, true, false, false, true, true, false, false, false, false] rfl rfl (by kernel_rfl) (fun _ _ _ h => h) (Or.inl ⟨by rfl, ?_⟩) hHeld ?_ ?_
     rotate_left
     ·rintro w' ⟨s0, s1⟩
      go_simp
      with_reducible rfl
     rotate_left
     ·simp only [Act.put, List.setIfInBounds_toArray, List.set_cons_zero, List.set_cons_succ, i64_w, i32_w]
      rfl
     refine take_ (i := 4) (N := some 42) (v := ?_) (a' := ?_) #[true, true, true, true, true, true, false, false, true, true, false, false, false, false] rfl rfl (by kernel_rfl) (fun _ _ _ h => h) (Or.inl ⟨by rfl, ?_⟩) hHeld ?_ ?_
     rotate_left
     ·rintro w' ⟨s0, s1⟩
      go_simp
      with_reducible rfl
     rotate_left
     ·simp only [Act.put, List.setIfInBounds_toArray, List.set_cons_zero, List.set_cons_succ, i64_w, i32_w]
      rfl
     refine pure_ (i := 6) (N := some 44) (v := ?_) (a' := ?_) #[true, true, true, true, true, true, true, false, true, true, false, false, false, false] rfl rfl (by kernel_rfl) (fun _ _ _ h => h) (Or.inl ⟨by rfl, ?_⟩) ?_ ?_
     rotate_left
     ·intro w'
      go_simp
      with_reducible rfl
     rotate_left
     ·simp only [Act.put, List.setIfInBounds_toArray, List.set_cons_zero, List.set_cons_succ, i64_w, i32_w]
      rfl
     refine take_ (i := 7) (N := some 45) (v := ?_) (a' := ?_) #[true, true, true, true, true, true, true, true, true, true, false, false, false, false] rfl rfl (by kernel_rfl) (fun _ _ _ h => h) (Or.inl ⟨by rfl, ?_⟩) hHeld ?_ ?_
     rotate_left
     ·rintro w' ⟨s0, s1⟩
      go_simp
      with_reducible rfl
     rotate_left
     ·simp only [Act.put, List.setIfInBounds_toArray, List.set_cons_zero, List.set_cons_succ, i64_w, i32_w]
      rfl
     refine one_ (i := 10) (N := some 48) #[true, true, true, true, true, true, true, true, true, true, true, false, false, false] rfl rfl (by kernel_rfl) (by decide) (fun K hK => ?_)
     refine value_ (w1 := ?_) (v := ?_) (by rfl) rfl ?_ ?_
     rotate_left 2
     ·go_simp
      constructor
      ·rfl
      ·rfl
     refine hK.out _ _ ⟨(blk_cell (blk_alloc BK5.out _) 4).trans rfl, (World.cell?_alloc_lt _ _ _ (World.block_lt_of_cell? _ _ hHeld.2)).trans hHeld.2⟩ (fun hHeld2 => ?_)
     clear hK K hHeld2
     refine norm_ (a' := ?_) ?_ ?_
     rotate_left
     ·show Act.put _ (some 48) _ = _
      simp only [Act.put, List.setIfInBounds_toArray, List.set_cons_zero, List.set_cons_succ, i64_w, i32_w]
      rfl
     refine one_ (i := 11) (N := some 49) #[true, true, true, true, true, true, true, true, true, true, true, true, false, false] rfl rfl (by kernel_rfl) (by decide) (fun K hK => ?_)
     refine Kd.R_append_step k38 (w0 := w) w.heap.size (by rfl) (.tmp 45) (.tmp 48) 34 38 (.agg #[(.int .i64 0), (.bool false)]) 16 rfl Try.underlying34 info38 rfl (by decide) (by omega) (.slice Ar RW.length cr) RW (⟨xj, false⟩ : S38) [.int .i64 xj, .bool false] (fun k_ => oki k_ ∨ ((fun _ => True)) k_ ∧ w14.heap.size ≤ k_) (fun _ => False) rfl rfl ?aP (fun _ hk => hk.elim) ?aF ?aO ?aB ?aS ?aL ?_
     (case aP => exact k38_mkM _ _ _ (⟨xj, false⟩ : S38))
     (case aF => exact fun k_ hk => .inr ⟨trivial, hk⟩)
     (case aO => exact Kd.R_mono UU.out (fun _ hk => .inl hk))
     (case aB => exact HB.out)
     (case aS => exact HB.out.size)
     (case aL => have := HRL.out; omega)
     intro v_ w16 ho hb hg hat
     clear hat
     have m0_ := Aside0.mk (blk_grown BK111.out hg (Kd.R_ne UU.out BK111.out (by decide)))
     have m1_ := Aside0.mk (blk_grown BK4.out hg (Kd.R_ne UU.out BK4.out (by decide)))
     have m2_ := Aside0.mk (blk_grown BK5.out hg (Kd.R_ne UU.out BK5.out (by decide)))
     have m3_ := Aside0.mk (Kd.S_over' Hv21.out (Kd.R_typed UU.out) (by decide) hg)
     have m4_ := Aside0.mk (Kd.S_over' Hv23.out (Kd.R_typed UU.out) (by decide) hg)
     have m5_ := Aside0.mk (Kd.R_over' HLL0.out (Kd.R_typed UU.out) (by decide) hg)
     have m6_ := Aside0.mk (Kd.H_grown (Kd.H_widen HH.out) hg (fun k_ e_ => .inl (UU.out.1 k_ e_)))
     have m7_ := Aside0.mk (hb)
     have m8_ := Aside0.mk (ho)
     clear BK111 BK4 BK5 Hv21 Hv23 HLL0 HH HB UU
     have BK111 := m0_
     clear m0_
     have BK4 := m1_
     clear m1_
     have BK5 := m2_
     clear m2_
     have Hv21 := m3_
     clear m3_
     have Hv23 := m4_
     clear m4_
     have HLL0 := m5_
     clear m5_
     have HH := m6_
     clear m6_
     have HB := m7_
     clear m7_
     have UU := m8_
     clear m8_
     rw [← HST.out] at UU
     obtain ⟨A2, c2, e2⟩ := Kd.R_slice UU.out
     subst e2
     obtain ⟨_, _, hraw, _, _, hcc_, _⟩ := Kd.H_raw HH.out pk qk
     obtain ⟨_, hfr_⟩ := Kd.H_at HH.out pk qk
     have hx4 := hcc_ 0 _ rfl
     have hf4 := hfr_ 0
     rw [show ((Kd.slice 38 k38)).sz = 1 from rfl, Nat.mul_one, Nat.add_zero, Int.toNat_natCast] at hx4 hf4
     have HRAW := Aside0.mk hraw
     clear hcc_ hfr_ hraw ho hb hg
     refine hK.out _ _ ⟨(blk_cell BK5.out 4).trans rfl, hx4⟩ (fun hHeld => ?_)
     clear hK K
     refine norm_ (a' := ?_) ?_ ?_
     rotate_left
     ·show Act.put _ (some 49) _ = _
      simp only [Act.put, List.setIfInBounds_toArray, List.set_cons_zero, List.set_cons_succ, i64_w, i32_w]
      rfl
     refine pure_ (i := 12) (N := some 50) (v := ?_) (a' := ?_) #[true, true, true, true, true, true, true, true, true, true, true, true, true, false] rfl rfl (by kernel_rfl) (fun _ _ _ h => h) (Or.inl ⟨by rfl, ?_⟩) ?_ ?_
     rotate_left
     ·intro w'
      go_simp
      with_reducible rfl
     rotate_left
     ·simp only [Act.put, List.setIfInBounds_toArray, List.set_cons_zero, List.set_cons_succ, i64_w, i32_w]
      rfl
     have HP := Kd.S_seg0 HH.out pk qk (seg := [.slice A2 RW2.length c2]) (j := 0) (show 1 ≤ 1 from by decide) (x' := RW2) (Kd.M_row UU.out) (fun _ hk => hk)
     rw [show ((Kd.slice 38 k38)).sz = 1 from rfl, Nat.mul_one, Nat.add_zero, Int.toNat_natCast, List.set_set] at HP
     have HG2 : w16.grownBy (w16.setCell ⟨go, k, none⟩ (.slice A2 RW2.length c2)) (some go) := HP.2
     have HO := Aside0.mk (show Kd.S (Kd.slice 38 k38) 34 (w16.setCell ⟨go, k, none⟩ (.slice A2 RW2.length c2)) w.heap.size (fun _ => True) (.slice (some ⟨go, 0, none⟩) n0 co) ((rowsAt l0_2 n0 k).set k RW2) from HP.1)
     refine last_ (i := 13) (N := none) #[true, true, true, true, true, true, true, true, true, true, true, true, true, true] rfl rfl (by kernel_rfl) (by decide) (fun K hK => ?_)
     refine skip_ (w1 := w16.setCell ⟨go, k, none⟩ (.slice A2 RW2.length c2)) (by rfl) rfl ?_ ?_
     ·go_simp
     refine hK.out _ _ ?_
     clear hK K
     have m0_ := Aside0.mk (blk_grown BK111.out HG2 (Kd.R_ne HRAW.out BK111.out (by decide)))
     have m1_ := Aside0.mk (blk_grown BK4.out HG2 (Kd.R_ne HRAW.out BK4.out (by decide)))
     have m2_ := Aside0.mk (blk_grown BK5.out HG2 (Kd.R_ne HRAW.out BK5.out (by decide)))
     have m3_ := Aside0.mk (Kd.S_over' Hv21.out (Kd.R_typed HRAW.out) (by decide) HG2)
     have m4_ := Aside0.mk (Kd.S_over' Hv23.out (Kd.R_typed HRAW.out) (by decide) HG2)
     have m5_ := Aside0.mk (Kd.R_over' HLL0.out (Kd.R_typed HRAW.out) (by decide) HG2)
     have m6_ := Aside0.mk ((below_set HB.out GBO.out : Below w.heap.size w (w16.setCell ⟨go, k, none⟩ (.slice A2 RW2.length c2))))
     clear BK111 BK4 BK5 Hv21 Hv23 HLL0 HB
     have BK111 := m0_
     clear m0_
     have BK4 := m1_
     clear m1_
     have BK5 := m2_
     clear m2_
     have Hv21 := m3_
     clear m3_
     have Hv23 := m4_
     clear m4_
     have HLL0 := m5_
     clear m5_
     have HB := m6_
     clear m6_
     clear HP HG2 HRAW UU HH hHeld hx4 hf4
     refine done_ (by kernel_rfl) ?_
     generalize w16.setCell ⟨go, k, none⟩ (.slice A2 RW2.length c2) = w17 at HO BK111 BK4 BK5 Hv21 Hv23 HLL0 HB ⊢
     rw [HRW2.out] at HO
     clear HRW2 HST HRW
     go_wp2_with fail
     go_roundw
     case rel => exact ⟨j + 1, by omega, by first | rfl | go_num, HO, BK111, BK4, BK5, Hv21, Hv23, HLL0, HB⟩
     case measure => simp [intOf] <;> omega
    ·have ej : j = LL0.length := by omega
     subst ej
     rw [List.take_length] at HO
     have cj : decide ((LL0.length : Int) < (LL0.length : Int)) = false := decide_eq_false (by omega)
     have hlenx : True := trivial
     obtain ⟨ad1, AA1, cc1, e_, hx_, hl_, _⟩ := at_L7 (Kd.S_reads' Hv23.out).2.2 (k : Int) pk (by rw [hn1]; omega)
     cases e_
     obtain ⟨ce_, hce_, hM_, hcc_⟩ := Kd.S_get Hv23.out [] (k : Int) pk qk
     obtain ⟨ve_, rfl, ge_⟩ := hM_
     have hv_ := hcc_ 0 _ rfl
     rw [Nat.add_zero, show ((Kd.slice 3 (Kd.int .i64))).sz = 1 from rfl, Nat.mul_one] at hv_
     replace hv_ := Option.some.inj (hv_.symm.trans hx_)
     rw [hv_] at ge_
     obtain ⟨LL1, hLL1⟩ : ∃ L, L = rd_L7 L1 (k : Int) := ⟨_, rfl⟩
     have HLL1 : Aside0 (Kd.R (Kd.int .i64) 3 wr w.heap.size (fun _ => True) (.slice AA1 LL1.length cc1) LL1) := ⟨by rw [hLL1]; exact Kd.R_mono ge_ (fun _ _ => trivial)⟩
     rw [← hLL1] at hx_
     simp only [Int.toNat_natCast] at hx_
     have HELL1 := Aside0.mk hLL1
     clear ge_ hv_ hcc_ hce_ hl_ hLL1
     have hxLL1 := hx_
     clear hx_
     have HLE1 : Aside0 (LL1.length ≤ 500000) := ⟨by rw [HELL1.out, HL1.out]; exact Nat.le_trans (lsAt_row _ _ _ _ _) hl⟩
     go_wp2_with fail
     have hLL1 := HLE1.out
     obtain ⟨wo2, hwo2⟩ : ∃ x_ : World, x_ = wr := ⟨_, rfl⟩
     subst hwo2
     go_loopw [57] (fun v_ w' => ∃ j : Nat, j ≤ LL1.length ∧ v_ = .int .i64 j ∧ Aside0 (Kd.S (Kd.slice 38 k38) 34 w' w.heap.size (fun _ => True) (.slice (some ⟨go, 0, none⟩) n0 co) ((rowsAt l0_2 n0 k).set k ((([] : List S38) ++ LL0.map (fun i => (⟨i, false⟩ : S38))) ++ (LL1.take j).map (fun i => (⟨i, true⟩ : S38))))) ∧ Aside0 (w'.heap[gb111]? = some (.cells #[.int .i64 (n0 : Int), .bool a0_1, .slice A0_2 l0_2.length c0_2] 24 (0, 0))) ∧ Aside0 (w'.heap[gb4]? = some (.cells #[.int .i64 0, .bool false, .slice none 0 0, .slice none 0 0, .slice none 0 0] 118 (0, 0))) ∧ Aside0 (w'.heap[gb5]? = some (.cells #[.int .i64 (n0 : Int), .bool a0_1, .slice A0_2 l0_2.length c0_2, .slice A1 n1 c1, .slice (some ⟨go, 0, none⟩) n0 co] 118 (0, 0))) ∧ Aside0 (Kd.S (Kd.slice 3 (Kd.int .i64)) 25 w' w.heap.size (fun _ => True) (.slice (some ad0) n0 cv21) L0) ∧ Aside0 (Kd.S (Kd.slice 3 (Kd.int .i64)) 25 w' w.heap.size (fun _ => True) (.slice (some ad1) n0 cv23) L1) ∧ Aside0 (Kd.R (Kd.int .i64) 3 w' w.heap.size (fun _ => True) (.slice AA1 LL1.length cc1) LL1) ∧ Aside0 (Below w.heap.size w w')) (fun v_ _ => LL1.length - (intOf v_).toNat)
     case atStart => exact ⟨0, Nat.zero_le _, rfl, ⟨by rw [List.take_zero, List.map_nil, List.append_nil]; exact HO.out⟩, BK111, BK4, BK5, Hv21, Hv23, HLL1, HB⟩
     case round =>
      clear HO BK111 BK4 BK5 Hv21 Hv23 HLL1 HB
      obtain ⟨j, hj, rfl, HO, BK111, BK4, BK5, Hv21, Hv23, HLL1, HB⟩ := hrel
      by_cases hltj : j < LL1.length
      ·have pj : 0 ≤ ((j : Nat) : Int) := by omega
       have qj : ((j : Nat) : Int) < (LL1.length : Int) := by omega
       have cj : decide ((j : Int) < (LL1.length : Int)) = true := decide_eq_true qj
       obtain ⟨adj, eadj, hxj⟩ := Kd.at_int (Kd.R_reads' HLL1.out).2.2 (j : Int) pj qj
       cases eadj
       simp only [Int.toNat_natCast] at hxj
       have HST := Aside0.mk (row_step (([] : List S38) ++ LL0.map (fun i => (⟨i, false⟩ : S38))) LL1 true j hltj)
       obtain ⟨xj, hxv⟩ : ∃ x_, x_ = rd LL1 (j : Int) := ⟨_, rfl⟩
       obtain ⟨RW, hRW⟩ : ∃ r_, r_ = ((([] : List S38) ++ LL0.map (fun i => (⟨i, false⟩ : S38))) ++ (LL1.take j).map (fun i => (⟨i, true⟩ : S38))) := ⟨_, rfl⟩
       have HRL : Aside0 (RW.length ≤ 1000000) := ⟨by rw [hRW]; simp; have := HLE0.out; have := HLE1.out; omega⟩
       rw [← hRW, ← hxv] at HST
       obtain ⟨RW2, hRW2⟩ : ∃ r_, r_ = ((([] : List S38) ++ LL0.map (fun i => (⟨i, false⟩ : S38))) ++ (LL1.take (j + 1)).map (fun i => (⟨i, true⟩ : S38))) := ⟨_, rfl⟩
       rw [← hRW2] at HST
       have HRW2 := Aside0.mk hRW2
       clear hRW2
       rw [← hxv] at hxj
       rw [← hRW] at HO
       have HRW := Aside0.mk hRW
       have HXV := Aside0.mk hxv
       clear hRW hxv
       obtain ⟨oki, c_, _, hM_, hcc_, _, _, hH_⟩ := Kd.S_elem HO.out [] (k : Int) pk qk
       obtain ⟨vr, rfl, hR_⟩ := hM_
       rw [show ((rowsAt l0_2 n0 k).set k RW).getD (k : Int).toNat [] = RW from rd_set (rowsAt l0_2 n0 k) k RW (by rw [rowsAt_len]; exact hlt)] at hR_
       obtain ⟨Ar, cr, er⟩ := Kd.R_slice hR_
       subst er
       have hx4 := hcc_ 0 _ rfl
       rw [show ((Kd.slice 38 k38)).sz = 1 from rfl, Nat.mul_one, Nat.add_zero, Int.toNat_natCast] at hx4
       have UU := Aside0.mk hR_
       have HH := Aside0.mk hH_
       clear hcc_ hR_ hH_
       have hx5 : wr.cell? ⟨gb5, 4, none⟩ = some (.slice (some ⟨go, 0, none⟩) n0 co) := (blk_cell BK5.out 4).trans rfl
       go_wp2_with fail
       refine start_ (n := 14) (S := fun w' => w'.cell? ⟨gb5, 4, none⟩ = some (.slice (some ⟨go, 0, none⟩) n0 co) ∧ w'.cell? ⟨go, k, none⟩ = some (.slice Ar RW.length cr)) (ds := [13]) #[false, false, false, false, false, false, false, false, false, false, false, false, false, false] (by kernel_rfl) rfl rfl ⟨hx5, hx4⟩ (fun hHeld => ?_)
       have m0_ := Aside0.mk (below_drew HB.out)
       have m1_ := Aside0.mk ((show wr.drew.heap[gb111]? = _ from BK111.out))
       have m2_ := Aside0.mk ((show wr.drew.heap[gb4]? = _ from BK4.out))
       have m3_ := Aside0.mk ((show wr.drew.heap[gb5]? = _ from BK5.out))
       have m4_ := Aside0.mk (Kd.S_drew Hv21.out)
       have m5_ := Aside0.mk (Kd.S_drew Hv23.out)
       have m6_ := Aside0.mk (Kd.R_drew HLL1.out)
       have m7_ := Aside0.mk (Kd.R_drew UU.out)
       have m8_ := Aside0.mk (Kd.H_drew HH.out)
       clear HB BK111 BK4 BK5 Hv21 Hv23 HLL1 UU HH
       have HB := m0_
       clear m0_
       have BK111 := m1_
       clear m1_
       have BK4 := m2_
       clear m2_
       have BK5 := m3_
       clear m3_
       have Hv21 := m4_
       clear m4_
       have Hv23 := m5_
       clear m5_
       have HLL1 := m6_
       clear m6_
       have UU := m7_
       clear m7_
       have HH := m8_
       clear m8_
       clear HO hxj hx5 hx4
       generalize wr.drew = w14 at HB BK111 BK4 BK5 Hv21 Hv23 HLL1 UU HH hHeld ⊢
       refine pure_ (i := 0) (N := some 61) (v := ?_) (a' := ?_) #[true, false, false, false, false, false, false, false, false, false, false, false, false, false] rfl rfl (by kernel_rfl) (fun _ _ _ h => h) (Or.inl ⟨by rfl, ?_⟩) ?_ ?_
       rotate_left
       ·intro w'
        go_simp
        with_reducible rfl
       rotate_left
       ·simp only [Act.put, List.setIfInBounds_toArray, List.set_cons_zero, List.set_cons_succ, i64_w, i32_w]
        rfl
       refine pure_ (i := 2) (N := some 63) (v := ?_) (a' := ?_) #[true, false, true, false, false, false, false, false, false, false, false, false, false, false] rfl rfl (by kernel_rfl) (fun _ _ _ h => h) (Or.inl ⟨by rfl, ?_⟩) ?_ ?_
       rotate_left
       ·intro w'
        go_simp
        with_reducible rfl
       rotate_left
       ·simp only [Act.put, List.setIfInBounds_toArray, List.set_cons_zero, List.set_cons_succ, i64_w, i32_w]
        rfl
       refine pure_ (i := 3) (N := some 64) (v := ?_) (a' := ?_) #[true, false, true, true, false, false, false, false, false, false, false, false, false, false] rfl rfl (by kernel_rfl) (fun _ _ _ h => h) (Or.inl ⟨by rfl, ?_⟩) ?_ ?_
       rotate_left
       ·intro w'
        go_simp
        with_reducible rfl
       rotate_left
       ·simp only [Act.put, List.setIfInBounds_toArray, List.set_cons_zero, List.set_cons_succ, i64_w, i32_w]
        rfl
       refine pure_ (i := 5) (N := some 66) (v := ?_) (a' := ?_) #[true, false, true, true, false, true, false, false, false, false, false, false, false, false] rfl rfl (by kernel_rfl) (fun _ _ _ h => h) (Or.inl ⟨by rfl, ?_⟩) ?_ ?_
       rotate_left
       ·intro w'
        go_simp
        with_reducible rfl
       rotate_left
       ·simp only [Act.put, List.setIfInBounds_toArray, List.set_cons_zero, List.set_cons_succ, i64_w, i32_w]
        rfl
       refine pure_ (i := 8) (N := some 69) (v := ?_) (a' := ?_) #[true, false, true, true, false, true, false, false, true, false, false, false, false, false] rfl rfl (by kernel_rfl) (fun _ _ _ h => h) (Or.inl ⟨by rfl, ?_⟩) ?_ ?_
       rotate_left
       ·intro w'
        go_simp
        with_reducible rfl
       rotate_left
       ·simp only [Act.put, List.setIfInBounds_toArray, List.set_cons_zero, List.set_cons_succ, i64_w, i32_w]
        rfl
       refine pure_ (i := 9) (N := some 70) (v := ?_) (a' := ?_) #[true, false, true, true, false, true, false, false, true, true, false, false, false, false] rfl rfl (by kernel_rfl) (fun _ _ _ h => h) (Or.inl ⟨by rfl, ?_⟩) ?_ ?_
       rotate_left
       ·intro w'
        go_simp
        with_reducible rfl
       rotate_left
       ·simp only [Act.put, List.setIfInBounds_toArray, List.set_cons_zero, List.set_cons_succ, i64_w, i32_w]
        rfl
       refine take_ (i := 1) (N := some 62) (v := ?_) (a' := ?_) #[true, true, true, true, false, true, false, false, true, true, false, false, false, false] rfl rfl (by kernel_rfl) (fun _ _ _ h => h) (Or.inl ⟨by rfl, ?_⟩) hHeld ?_ ?_
       rotate_left
       ·rintro w' ⟨s0, s1⟩
        go_simp
        with_reducible rfl
       rotate_left
       ·simp only [Act.put, List.setIfInBounds_toArray, List.set_cons_zero, List.set_cons_succ, i64_w, i32_w]
        rfl
       refine take_ (i := 4) (N := some 65) (v := ?_) (a' := ?_) #[true, true, true, true, true, true, false, false, true, true, false, false, false, false] rfl rfl (by kernel_rfl) (fun _ _ _ h => h) (Or.inl ⟨by rfl, ?_⟩) hHeld ?_ ?_
       rotate_left
       ·rintro w' ⟨s0, s1⟩
        go_simp
        with_reducible rfl
       rotate_left
       ·simp only [Act.put, List.setIfInBounds_toArray, List.set_cons_zero, List.set_cons_succ, i64_w, i32_w]
        rfl
       refine pure_ (i := 6) (N := some 67) (v := ?_) (a' := ?_) #[true, true, true, true, true, true, true, false, true, true, false, false, false, false] rfl rfl (by kernel_rfl) (fun _ _ _ h => h) (Or.inl ⟨by rfl, ?_⟩) ?_ ?_
       rotate_left
       ·intro w'
        go_simp
        with_reducible rfl
       rotate_left
       ·simp only [Act.put, List.setIfInBounds_toArray, List.set_cons_zero, List.set_cons_succ, i64_w, i32_w]
        rfl
       refine take_ (i := 7) (N := some 68) (v := ?_) (a' := ?_) #[true, true, true, true, true, true, true, true, true, true, false, false, false, false] rfl rfl (by kernel_rfl) (fun _ _ _ h => h) (Or.inl ⟨by rfl, ?_⟩) hHeld ?_ ?_
       rotate_left
       ·rintro w' ⟨s0, s1⟩
        go_simp
        with_reducible rfl
       rotate_left
       ·simp only [Act.put, List.setIfInBounds_toArray, List.set_cons_zero, List.set_cons_succ, i64_w, i32_w]
        rfl
       refine one_ (i := 10) (N := some 71) #[true, true, true, true, true, true, true, true, true, true, true, false, false, false] rfl rfl (by kernel_rfl) (by decide) (fun K hK => ?_)
       refine value_ (w1 := ?_) (v := ?_) (by rfl) rfl ?_ ?_
       rotate_left 2
       ·go_simp
        constructor
        ·rfl
        ·rfl
       refine hK.out _ _ ⟨(blk_cell (blk_alloc BK5.out _) 4).trans rfl, (World.cell?_alloc_lt _ _ _ (World.block_lt_of_cell? _ _ hHeld.2)).trans hHeld.2⟩ (fun hHeld2 => ?_)
       clear hK K hHeld2
       refine norm_ (a' := ?_) ?_ ?_
       rotate_left
       ·show Act.put _ (some 71) _ = _
        simp only [Act.put, List.setIfInBounds_toArray, List.set_cons_zero, List.set_cons_succ, i64_w, i32_w]
        rfl
       refine one_ (i := 11) (N := some 72) #[true, true, true, true, true, true, true, true, true, true, true, true, false, false] rfl rfl (by kernel_rfl) (by decide) (fun K hK => ?_)
       refine Kd.R_append_step k38 (w0 := w) w.heap.size (by rfl) (.tmp 68) (.tmp 71) 34 38 (.agg #[(.int .i64 0), (.bool false)]) 16 rfl Try.underlying34 info38 rfl (by decide) (by omega) (.slice Ar RW.length cr) RW (⟨xj, true⟩ : S38) [.int .i64 xj, .bool true] (fun k_ => oki k_ ∨ ((fun _ => True)) k_ ∧ w14.heap.size ≤ k_) (fun _ => False) rfl rfl ?aP (fun _ hk => hk.elim) ?aF ?aO ?aB ?aS ?aL ?_
       (case aP => exact k38_mkM _ _ _ (⟨xj, true⟩ : S38))
       (case aF => exact fun k_ hk => .inr ⟨trivial, hk⟩)
       (case aO => exact Kd.R_mono UU.out (fun _ hk => .inl hk))
       (case aB => exact HB.out)
       (case aS => exact HB.out.size)
       (case aL => have := HRL.out; omega)
       intro v_ w16 ho hb hg hat
       clear hat
       have m0_ := Aside0.mk (blk_grown BK111.out hg (Kd.R_ne UU.out BK111.out (by decide)))
       have m1_ := Aside0.mk (blk_grown BK4.out hg (Kd.R_ne UU.out BK4.out (by decide)))
       have m2_ := Aside0.mk (blk_grown BK5.out hg (Kd.R_ne UU.out BK5.out (by decide)))
       have m3_ := Aside0.mk (Kd.S_over' Hv21.out (Kd.R_typed UU.out) (by decide) hg)
       have m4_ := Aside0.mk (Kd.S_over' Hv23.out (Kd.R_typed UU.out) (by decide) hg)
       have m5_ := Aside0.mk (Kd.R_over' HLL1.out (Kd.R_typed UU.out) (by decide) hg)
       have m6_ := Aside0.mk (Kd.H_grown (Kd.H_widen HH.out) hg (fun k_ e_ => .inl (UU.out.1 k_ e_)))
       have m7_ := Aside0.mk (hb)
       have m8_ := Aside0.mk (ho)
       clear BK111 BK4 BK5 Hv21 Hv23 HLL1 HH HB UU
       have BK111 := m0_
       clear m0_
       have BK4 := m1_
       clear m1_
       have BK5 := m2_
       clear m2_
       have Hv21 := m3_
       clear m3_
       have Hv23 := m4_
       clear m4_
       have HLL1 := m5_
       clear m5_
       have HH := m6_
       clear m6_
       have HB := m7_
       clear m7_
       have UU := m8_
       clear m8_
       rw [← HST.out] at UU
       obtain ⟨A2, c2, e2⟩ := Kd.R_slice UU.out
       subst e2
       obtain ⟨_, _, hraw, _, _, hcc_, _⟩ := Kd.H_raw HH.out pk qk
       obtain ⟨_, hfr_⟩ := Kd.H_at HH.out pk qk
       have hx4 := hcc_ 0 _ rfl
       have hf4 := hfr_ 0
       rw [show ((Kd.slice 38 k38)).sz = 1 from rfl, Nat.mul_one, Nat.add_zero, Int.toNat_natCast] at hx4 hf4
       have HRAW := Aside0.mk hraw
       clear hcc_ hfr_ hraw ho hb hg
       refine hK.out _ _ ⟨(blk_cell BK5.out 4).trans rfl, hx4⟩ (fun hHeld => ?_)
       clear hK K
       refine norm_ (a' := ?_) ?_ ?_
       rotate_left
       ·show Act.put _ (some 72) _ = _
        simp only [Act.put, List.setIfInBounds_toArray, List.set_cons_zero, List.set_cons_succ, i64_w, i32_w]
        rfl
       refine pure_ (i := 12) (N := some 73) (v := ?_) (a' := ?_) #[true, true, true, true, true, true, true, true, true, true, true, true, true, false] rfl rfl (by kernel_rfl) (fun _ _ _ h => h) (Or.inl ⟨by rfl, ?_⟩) ?_ ?_
       rotate_left
       ·intro w'
        go_simp
        with_reducible rfl
       rotate_left
       ·simp only [Act.put, List.setIfInBounds_toArray, List.set_cons_zero, List.set_cons_succ, i64_w, i32_w]
        rfl
       have HP := Kd.S_seg0 HH.out pk qk (seg := [.slice A2 RW2.length c2]) (j := 0) (show 1 ≤ 1 from by decide) (x' := RW2) (Kd.M_row UU.out) (fun _ hk => hk)
       rw [show ((Kd.slice 38 k38)).sz = 1 from rfl, Nat.mul_one, Nat.add_zero, Int.toNat_natCast, List.set_set] at HP
       have HG2 : w16.grownBy (w16.setCell ⟨go, k, none⟩ (.slice A2 RW2.length c2)) (some go) := HP.2
       have HO := Aside0.mk (show Kd.S (Kd.slice 38 k38) 34 (w16.setCell ⟨go, k, none⟩ (.slice A2 RW2.length c2)) w.heap.size (fun _ => True) (.slice (some ⟨go, 0, none⟩) n0 co) ((rowsAt l0_2 n0 k).set k RW2) from HP.1)
       refine last_ (i := 13) (N := none) #[true, true, true, true, true, true, true, true, true, true, true, true, true, true] rfl rfl (by kernel_rfl) (by decide) (fun K hK => ?_)
       refine skip_ (w1 := w16.setCell ⟨go, k, none⟩ (.slice A2 RW2.length c2)) (by rfl) rfl ?_ ?_
       ·go_simp
       refine hK.out _ _ ?_
       clear hK K
       have m0_ := Aside0.mk (blk_grown BK111.out HG2 (Kd.R_ne HRAW.out BK111.out (by decide)))
       have m1_ := Aside0.mk (blk_grown BK4.out HG2 (Kd.R_ne HRAW.out BK4.out (by decide)))
       have m2_ := Aside0.mk (blk_grown BK5.out HG2 (Kd.R_ne HRAW.out BK5.out (by decide)))
       have m3_ := Aside0.mk (Kd.S_over' Hv21.out (Kd.R_typed HRAW.out) (by decide) HG2)
       have m4_ := Aside0.mk (Kd.S_over' Hv23.out (Kd.R_typed HRAW.out) (by decide) HG2)
       have m5_ := Aside0.mk (Kd.R_over' HLL1.out (Kd.R_typed HRAW.out) (by decide) HG2)
       have m6_ := Aside0.mk ((below_set HB.out GBO.out : Below w.heap.size w (w16.setCell ⟨go, k, none⟩ (.slice A2 RW2.length c2))))
       clear BK111 BK4 BK5 Hv21 Hv23 HLL1 HB
       have BK111 := m0_
       clear m0_
       have BK4 := m1_
       clear m1_
       have BK5 := m2_
       clear m2_
       have Hv21 := m3_
       clear m3_
       have Hv23 := m4_
       clear m4_
       have HLL1 := m5_
       clear m5_
       have HB := m6_
       clear m6_
       clear HP HG2 HRAW UU HH hHeld hx4 hf4
       refine done_ (by kernel_rfl) ?_
       generalize w16.setCell ⟨go, k, none⟩ (.slice A2 RW2.length c2) = w17 at HO BK111 BK4 BK5 Hv21 Hv23 HLL1 HB ⊢
       rw [HRW2.out] at HO
       clear HRW2 HST HRW
       go_wp2_with fail
       go_roundw
       case rel => exact ⟨j + 1, by omega, by first | rfl | go_num, HO, BK111, BK4, BK5, Hv21, Hv23, HLL1, HB⟩
       case measure => simp [intOf] <;> omega
      ·have ej : j = LL1.length := by omega
       subst ej
       rw [List.take_length] at HO
       have cj : decide ((LL1.length : Int) < (LL1.length : Int)) = false := decide_eq_false (by omega)
       obtain ⟨RW, hRW⟩ : ∃ r_, r_ = ((([] : List S38) ++ LL0.map (fun i => (⟨i, false⟩ : S38))) ++ LL1.map (fun i => (⟨i, true⟩ : S38))) := ⟨_, rfl⟩
       have HRU : Aside0 (RW = stepsU l0_2 n0 (k : Int)) := ⟨by rw [hRW, HELL0.out, HELL1.out, HL0.out, HL1.out]; rfl⟩
       have HRL : Aside0 (RW.length ≤ 1000000) := ⟨by rw [hRW]; simp; have := HLE0.out; have := HLE1.out; omega⟩
       rw [← hRW] at HO
       clear hRW
       obtain ⟨oki, c_, _, hM_, hcc_, _, _, hH_⟩ := Kd.S_elem HO.out [] (k : Int) pk qk
       obtain ⟨vr, rfl, hR_⟩ := hM_
       rw [show ((rowsAt l0_2 n0 k).set k RW).getD (k : Int).toNat [] = RW from rd_set (rowsAt l0_2 n0 k) k RW (by rw [rowsAt_len]; exact hlt)] at hR_
       obtain ⟨Ar, cr, er⟩ := Kd.R_slice hR_
       subst er
       have hx4 := hcc_ 0 _ rfl
       rw [show ((Kd.slice 38 k38)).sz = 1 from rfl, Nat.mul_one, Nat.add_zero, Int.toNat_natCast] at hx4
       have UU := Aside0.mk hR_
       have HH := Aside0.mk hH_
       clear hcc_ hR_ hH_
       have hx5 : wr.cell? ⟨gb5, 4, none⟩ = some (.slice (some ⟨go, 0, none⟩) n0 co) := (blk_cell BK5.out 4).trans rfl
       have HEN : Aside0 (ends l0_2 n0) := ⟨fun i hi => ⟨HE0.out i hi, HE1.out i hi⟩⟩
       go_wp2_with (first | (go_at_call 143; refine (sort_row HH.out UU.out HRU.out hlt HEN.out (by omega) HRL.out).mono ?_; rintro e_ w20 ⟨rfl, vv, hg, hty, hS⟩; rw [List.set_set, rowsAt_set l0_2 n0 k hlt] at hS; have m0_ := Aside0.mk (blk_grown BK111.out hg (fun he => by obtain ⟨_, cells_, hc_⟩ := hty _ he.symm; have t_ := BK111.out.symm.trans hc_; simp at t_)); have m1_ := Aside0.mk (blk_grown BK4.out hg (fun he => by obtain ⟨_, cells_, hc_⟩ := hty _ he.symm; have t_ := BK4.out.symm.trans hc_; simp at t_)); have m2_ := Aside0.mk (blk_grown BK5.out hg (fun he => by obtain ⟨_, cells_, hc_⟩ := hty _ he.symm; have t_ := BK5.out.symm.trans hc_; simp at t_)); have m3_ := Aside0.mk (Kd.S_over' (v := vv) Hv21.out (fun k_ hk_ => (hty k_ hk_).2) (by decide) hg); have m4_ := Aside0.mk (Kd.S_over' (v := vv) Hv23.out (fun k_ hk_ => (hty k_ hk_).2) (by decide) hg); have m5_ := Aside0.mk (HB.out.grown hg HB.out.size (fun k_ hk_ => (hty k_ hk_).1)); have m6_ := Aside0.mk hS; clear hg hty hS HO BK111 BK4 BK5 Hv21 Hv23 HLL1 HB UU HH hx4 hx5; have HO := m6_; have BK111 := m0_; have BK4 := m1_; have BK5 := m2_; have Hv21 := m3_; have Hv23 := m4_; have HB := m5_; clear m0_ m1_ m2_ m3_ m4_ m5_ m6_) | fail)
       go_roundw
       case rel => exact ⟨k + 1, by omega, by first | rfl | go_num, HO, BK111, BK4, BK5, Hv21, Hv23, HB⟩
       case measure => simp [intOf] <;> omega
  ·have ek : n0 = k := by omega
   subst ek
   have hx0 : wr.cell? ⟨gb5, 0, none⟩ = some (.int .i64 (n0 : Int)) := (blk_cell BK5.out 0).trans rfl
   have hx1 : wr.cell? ⟨gb5, 1, none⟩ = some (.bool a0_1) := (blk_cell BK5.out 1).trans rfl
   have hx2 : wr.cell? ⟨gb5, 2, none⟩ = some (.slice A0_2 l0_2.length c0_2) := (blk_cell BK5.out 2).trans rfl
   have hx3 : wr.cell? ⟨gb5, 3, none⟩ = some (.slice A1 n1 c1) := (blk_cell BK5.out 3).trans rfl
   have hx4 : wr.cell? ⟨gb5, 4, none⟩ = some (.slice Ao n0 co) := (blk_cell BK5.out 4).trans rfl
   have hy0 : wr.cell? ⟨gb4, 0, none⟩ = some (.int .i64 0) := (blk_cell BK4.out 0).trans rfl
   have hf0 := blk_frozen BK4.out 0
   have hy1 : wr.cell? ⟨gb4, 1, none⟩ = some (.bool false) := (blk_cell BK4.out 1).trans rfl
   have hf1 := blk_frozen BK4.out 1
   have hy2 : wr.cell? ⟨gb4, 2, none⟩ = some (.slice none 0 0) := (blk_cell BK4.out 2).trans rfl
   have hf2 := blk_frozen BK4.out 2
   have hy3 : wr.cell? ⟨gb4, 3, none⟩ = some (.slice none 0 0) := (blk_cell BK4.out 3).trans rfl
   have hf3 := blk_frozen BK4.out 3
   have hy4 : wr.cell? ⟨gb4, 4, none⟩ = some (.slice none 0 0) := (blk_cell BK4.out 4).trans rfl
   have hf4 := blk_frozen BK4.out 4
   have GE4' := GE4.out
   go_wp2
   refine bodyPost_ret (results_cell_row rfl _ _ gb4 118 #[.int .i64 (n0 : Int), .bool a0_1, .slice A0_2 l0_2.length c0_2, .slice A1 n1 c1, .slice Ao n0 co] (0, 0) _ rfl (by refine blk_put (cs := #[.int .i64 (n0 : Int), .bool a0_1, .slice A0_2 l0_2.length c0_2, .slice A1 n1 c1, .slice none 0 0]) ?_ 4 _ rfl; refine blk_put (cs := #[.int .i64 (n0 : Int), .bool a0_1, .slice A0_2 l0_2.length c0_2, .slice none 0 0, .slice none 0 0]) ?_ 3 _ rfl; refine blk_put (cs := #[.int .i64 (n0 : Int), .bool a0_1, .slice none 0 0, .slice none 0 0, .slice none 0 0]) ?_ 2 _ rfl; refine blk_put (cs := #[.int .i64 (n0 : Int), .bool false, .slice none 0 0, .slice none 0 0, .slice none 0 0]) ?_ 1 _ rfl; refine blk_put (cs := #[.int .i64 0, .bool false, .slice none 0 0, .slice none 0 0, .slice none 0 0]) ?_ 0 _ rfl; exact BK4.out) Try.underlying118 rfl (by kernel_rfl)) rfl ?_
   exact ⟨_, rfl, Kd.S_mono (Kd.S_far (p := ⟨gb4, 4, none⟩) (Kd.S_far (p := ⟨gb4, 3, none⟩) (Kd.S_far (p := ⟨gb4, 2, none⟩) (Kd.S_far (p := ⟨gb4, 1, none⟩) (Kd.S_far (p := ⟨gb4, 0, none⟩) (Kd.S_types HO.out BK4.out (by decide)) (fun _ hk => hk.2) (.int .i64 (n0 : Int))) (fun _ hk => hk.2) (.bool a0_1)) (fun _ hk => hk.2) (.slice A0_2 l0_2.length c0_2)) (fun _ hk => hk.2) (.slice A1 n1 c1)) (fun _ hk => hk.2) (.slice Ao n0 co)) (fun _ _ => trivial), by repeat (first | exact HB.out | refine below_set ?_ GE4.out)⟩
end Go.Proofs.Ytkcpanpdipmmmaa.H
namespace Go.Proofs.Ytkcpanpdipmmmaa.Q
open Go.RowKit Go.Proofs.YtkcpanpdipmmmaaW.PrintWords Go.Proofs.YtkcpanpdipmmmaaW.PrintLast Go.Proofs.YtkcpanpdipmmmaaW.PrintMore Go.Proofs.Ytkcpanpdipmmmaa.P
open Go.Proofs.Ytkcpanpdipmmmaa.H (endsErr)
theorem ends_ev (n : Int) (b : Bool) (l : List S74) (s t : Int) : Ev (fun k => static_Ends.f k n b l s t) (endsErr n l s t) := by
 unfold static_Ends.f endsErr
 refine Ev.bind (check_ev n b l) ?_
 refine Ev.ite (fun h => ?_) (fun h => ?_)
 ·rw [if_pos h]
  refine Ev.ite (fun g => ?_) (fun g => ?_)
  ·exact Ev.done (by unfold mn at g; rw [if_neg (by omega)])
  ·unfold mn at g
   refine Ev.ite (fun g2 => ?_) (fun g2 => ?_)
   ·exact Ev.done (by unfold mx at g2; rw [if_neg (by omega)])
   ·unfold mx at g2
    refine Ev.ite (fun g3 => ?_) (fun g3 => ?_)
    ·exact Ev.done (by rw [if_neg (by omega)])
    ·exact Ev.done (by rw [if_pos (by omega)])
 ·rw [if_neg h]
  exact Ev.now _
end Go.Proofs.Ytkcpanpdipmmmaa.Q
namespace Go.Proofs.Ytkcpanpdipmmmaa.H
open Go.RowKit Go.Proofs.YtkcpanpdipmmmaaW.PrintWords Go.Proofs.YtkcpanpdipmmmaaW.PrintLast Go.Proofs.YtkcpanpdipmmmaaW.PrintMore Go.Proofs.Ytkcpanpdipmmmaa.P Go.Proofs.Ytkcpanpdipmmmaa.Q
theorem right_of {n : Int} {l : List S74} {F : List Int} (h : askErr n l F = 0) : ∃ n0 : Nat, n = n0 ∧ Right l F n0 := by
 obtain ⟨hn, hf⟩ := askErr_ok h
 have h1 := hn.lo
 have h2 := hn.hi
 obtain ⟨n0, rfl⟩ : ∃ n0 : Nat, n = n0 := ⟨n.toNat, by omega⟩
 refine ⟨n0, rfl, ⟨by omega, by omega, hn.len, hf.len, fun i hi => ?_, fun i hi => ?_⟩⟩
 ·have ha := hn.at_ (i := (i : Int)) (by omega) (by omega)
  exact ⟨⟨ha.f0, ha.h0⟩, ⟨ha.f1, ha.h1⟩⟩
 ·have ha := hn.at_ (i := (i : Int)) (by omega) (by omega)
  have hb := hf.at_ i (by rw [hf.len]; exact hi)
  rw [rd_nat] at hb
  exact ⟨ha.f3, ha.h3, hb.1, hb.2, ha.h2⟩
end Go.Proofs.Ytkcpanpdipmmmaa.H
namespace Go.Proofs.Ytkcpanpdipmmmaa.H
open Go.RowKit Go.Proofs.YtkcpanpdipmmmaaW.PrintWords Go.Proofs.YtkcpanpdipmmmaaW.PrintLast Go.Proofs.YtkcpanpdipmmmaaW.PrintMore Go.Proofs.Ytkcpanpdipmmmaa.P Go.Proofs.Ytkcpanpdipmmmaa.Q
theorem levels_zero {n : Int} {l : List S74} {F : List Int} {s : Int} (h0 : askErr n l F = 0) (h : 0 ≤ s ∧ s < n) : levelsRes n l F s = (dOf n.toNat (bfP l F n.toNat s.toNat), 0) := by unfold levelsRes; rw [if_pos h0, if_pos h]
set_option maxHeartbeats 2000000 in
set_option maxRecDepth 100000 in
theorem level_Levels_calls (a0_0 : Int) (a0_1 : Bool) (A2 : Option Addr) (c2 : Nat) (l : List S74) (A1 : Option Addr) (c1 : Nat) (F : List Int) (s : Int) (r1 : List Int) (r2 : Int) (w : World) (hr2 : Kd.C k74 w A2 l.length l) (hc2 : l.length ≤ c2) (hr1 : Kd.C (Kd.int .i64) w A1 F.length F) (hc1 : F.length ≤ c1) (h : some (levelsRes a0_0 l F s) = some (r1, r2)) :
  Calls Try.prog 53 #[.agg #[.int .i64 a0_0, .bool a0_1, .slice A2 l.length c2], .slice A1 F.length c1, .int .i64 s] w fun e w' => ∃ v0_ : Value, e = .returned (.tuple #[v0_, .int .i64 r2]) ∧ Kd.R (Kd.int .i64) 3 w' w.heap.size (fun _ => True) v0_ r1 ∧ Below w.heap.size w w' := by
 have hu24 := Try.underlying24
 injection h with h
 obtain ⟨K, hK⟩ := asked_ev a0_0 a0_1 l F
 have hA := hK K (Nat.le_refl _)
 obtain ⟨k, hk⟩ : ∃ k_, k_ = K := ⟨_, rfl⟩
 rw [← hk] at hA
 clear hK hk K
 have H2 := Aside0.mk hr2
 have H3 := Aside0.mk hr1
 have HC2 := Aside0.mk hc2
 have HC1 := Aside0.mk hc1
 have HB := Aside0.mk (Below.refl w.heap.size w)
 clear hr2 hr1 hc2 hc1
 by_cases h0 : askErr a0_0 l F = 0
 ·rw [h0] at hA
  have HA := Aside0.mk hA
  clear hA
  by_cases hs : 0 ≤ s ∧ s < a0_0
  ·rw [levels_zero h0 hs] at h
   obtain ⟨n0, rfl, hR⟩ := right_of h0
   obtain ⟨s0, rfl⟩ : ∃ s0 : Nat, s = s0 := ⟨s.toNat, by omega⟩
   rw [Int.toNat_natCast, Int.toNat_natCast] at h
   injection h with q1 q2
   subst q1
   subst q2
   have HR := Aside0.mk hR
   have hn50 := hR.fifty
   have hs0 : s0 < n0 := by omega
   have e1 : decide ((s0 : Int) < 0) = false := decide_eq_false (by omega)
   have e2 : decide ((n0 : Int) ≤ (s0 : Int)) = false := decide_eq_false (by omega)
   clear hs h0 hR
   go_enter Try.func53, Try.ntmps53
   go_wp2_with (first | ((with_reducible refine gate_dst (N := 3) rfl ?_); refine box_event ?hg (N := 3) ?hd (cs := #[.int .i64 (n0 : Int), .bool a0_1, .slice A2 l.length c2]) (t := 24) ?hr ?_; (case hd => rfl); (case hg => rfl); (case hr => first | (go_simp; done) | (go_simp; rfl)); intro g3 hg w4 hbox hb; have n0_ := Aside0.mk (below_step HB.out hb); have B3 := Aside0.mk hbox; clear HB; have HB := n0_; clear n0_ hb hbox hg; have hb0 : w4.cell? ⟨g3, 0, none⟩ = some (.int .i64 (n0 : Int)) := (blk_cell B3.out 0).trans rfl; have hb1 : w4.cell? ⟨g3, 1, none⟩ = some (.bool a0_1) := (blk_cell B3.out 1).trans rfl; have hb2 : w4.cell? ⟨g3, 2, none⟩ = some (.slice A2 l.length c2) := (blk_cell B3.out 2).trans rfl) | (go_at_call 96; refine (static_Asked.calls k (n0 : Int) a0_1 A2 c2 l A1 c1 F 0 _ (Kd.C_below H2.out HB.out) HC2.out (Kd.C_below H3.out HB.out) HC1.out HA.out).mono ?_; rintro e_ w5 ⟨rfl, hb⟩; have n0_ := Aside0.mk (below_step HB.out hb); have n1_ := Aside0.mk (blk_below B3.out hb); clear HB B3 hb0 hb1 hb2 hb; have HB := n0_; have B3 := n1_; clear n0_ n1_; have hb0 : w5.cell? ⟨g3, 0, none⟩ = some (.int .i64 (n0 : Int)) := (blk_cell B3.out 0).trans rfl; have hb1 : w5.cell? ⟨g3, 1, none⟩ = some (.bool a0_1) := (blk_cell B3.out 1).trans rfl; have hb2 : w5.cell? ⟨g3, 2, none⟩ = some (.slice A2 l.length c2) := (blk_cell B3.out 2).trans rfl) | (go_at_call 101; refine (at_calls n0 a0_1 A2 c2 l A1 c1 F.length _ (Kd.C_below H2.out HB.out) HC2.out (by omega) (by omega) (by have := HR.out.arcs; omega) (fun k hk => (HR.out.ends k hk).1) (fun k hk => (HR.out.ends k hk).2)).mono ?_; rintro e_ w7 ⟨vr, rfl, hS, hb⟩; obtain ⟨A4, c4, ev⟩ := Kd.S_slice hS; subst ev; have H4 := Aside0.mk (Kd.S_reads' hS).2.2; rw [rowsAt_len] at H4 ⊢; have n0_ := Aside0.mk (below_step HB.out hb); have n1_ := Aside0.mk (blk_below B3.out hb); clear HB B3 hb0 hb1 hb2 hb; have HB := n0_; have B3 := n1_; clear n0_ n1_; clear hS) | (go_at_call 108; refine (far_calls n0 a0_1 A2 c2 l A1 c1 F A4 c4 s0 _ HR.out hs0 HC2.out HC1.out (Kd.C_below H2.out HB.out) (Kd.C_below H3.out HB.out) H4.out).mono ?_; rintro e_ w8 ⟨gd, rfl, hge, hd, hb⟩; have HGE := Aside0.mk (Nat.le_trans HB.out.size hge); have HD := Aside0.mk hd; have n0_ := Aside0.mk (below_step HB.out hb); clear HB hb hd hge; have HB := n0_; clear n0_) | fail)
   go_ret2
   have hr := HD.out.R (ok := fun _ => True) (by rw [dOf_len]; omega) HGE.out trivial
   rw [dOf_len] at hr
   exact ⟨_, rfl, hr, HB.out⟩
  ·have hl : levelsRes a0_0 l F s = ([], 1) := by unfold levelsRes; rw [if_pos h0, if_neg hs]
   rw [hl] at h
   injection h with q1 q2
   subst q1
   subst q2
   go_enter Try.func53, Try.ntmps53
   by_cases h1 : s < 0
   ·have e1 : decide (s < 0) = true := decide_eq_true h1
    clear hs h1 h0
    go_wp2_with (first | ((with_reducible refine gate_dst (N := 3) rfl ?_); refine box_event ?hg (N := 3) ?hd (cs := #[.int .i64 a0_0, .bool a0_1, .slice A2 l.length c2]) (t := 24) ?hr ?_; (case hd => rfl); (case hg => rfl); (case hr => first | (go_simp; done) | (go_simp; rfl)); intro g3 hg w4 hbox hb; have n0_ := Aside0.mk (below_step HB.out hb); have B3 := Aside0.mk hbox; clear HB; have HB := n0_; clear n0_ hb hbox hg; have hb0 : w4.cell? ⟨g3, 0, none⟩ = some (.int .i64 a0_0) := (blk_cell B3.out 0).trans rfl; have hb1 : w4.cell? ⟨g3, 1, none⟩ = some (.bool a0_1) := (blk_cell B3.out 1).trans rfl; have hb2 : w4.cell? ⟨g3, 2, none⟩ = some (.slice A2 l.length c2) := (blk_cell B3.out 2).trans rfl) | (go_at_call 96; refine (static_Asked.calls k a0_0 a0_1 A2 c2 l A1 c1 F 0 _ (Kd.C_below H2.out HB.out) HC2.out (Kd.C_below H3.out HB.out) HC1.out HA.out).mono ?_; rintro e_ w5 ⟨rfl, hb⟩; have n0_ := Aside0.mk (below_step HB.out hb); have n1_ := Aside0.mk (blk_below B3.out hb); clear HB B3 hb0 hb1 hb2 hb; have HB := n0_; have B3 := n1_; clear n0_ n1_; have hb0 : w5.cell? ⟨g3, 0, none⟩ = some (.int .i64 a0_0) := (blk_cell B3.out 0).trans rfl; have hb1 : w5.cell? ⟨g3, 1, none⟩ = some (.bool a0_1) := (blk_cell B3.out 1).trans rfl; have hb2 : w5.cell? ⟨g3, 2, none⟩ = some (.slice A2 l.length c2) := (blk_cell B3.out 2).trans rfl) | fail)
    go_ret2
    exact ⟨_, rfl, Kd.R_nil _ _ _ _ _, HB.out⟩
   ·have e1 : decide (s < 0) = false := decide_eq_false h1
    have e2 : decide (a0_0 ≤ s) = true := decide_eq_true (by omega)
    clear hs h1 h0
    go_wp2_with (first | ((with_reducible refine gate_dst (N := 3) rfl ?_); refine box_event ?hg (N := 3) ?hd (cs := #[.int .i64 a0_0, .bool a0_1, .slice A2 l.length c2]) (t := 24) ?hr ?_; (case hd => rfl); (case hg => rfl); (case hr => first | (go_simp; done) | (go_simp; rfl)); intro g3 hg w4 hbox hb; have n0_ := Aside0.mk (below_step HB.out hb); have B3 := Aside0.mk hbox; clear HB; have HB := n0_; clear n0_ hb hbox hg; have hb0 : w4.cell? ⟨g3, 0, none⟩ = some (.int .i64 a0_0) := (blk_cell B3.out 0).trans rfl; have hb1 : w4.cell? ⟨g3, 1, none⟩ = some (.bool a0_1) := (blk_cell B3.out 1).trans rfl; have hb2 : w4.cell? ⟨g3, 2, none⟩ = some (.slice A2 l.length c2) := (blk_cell B3.out 2).trans rfl) | (go_at_call 96; refine (static_Asked.calls k a0_0 a0_1 A2 c2 l A1 c1 F 0 _ (Kd.C_below H2.out HB.out) HC2.out (Kd.C_below H3.out HB.out) HC1.out HA.out).mono ?_; rintro e_ w5 ⟨rfl, hb⟩; have n0_ := Aside0.mk (below_step HB.out hb); have n1_ := Aside0.mk (blk_below B3.out hb); clear HB B3 hb0 hb1 hb2 hb; have HB := n0_; have B3 := n1_; clear n0_ n1_; have hb0 : w5.cell? ⟨g3, 0, none⟩ = some (.int .i64 a0_0) := (blk_cell B3.out 0).trans rfl; have hb1 : w5.cell? ⟨g3, 1, none⟩ = some (.bool a0_1) := (blk_cell B3.out 1).trans rfl; have hb2 : w5.cell? ⟨g3, 2, none⟩ = some (.slice A2 l.length c2) := (blk_cell B3.out 2).trans rfl) | fail)
    go_ret2
    exact ⟨_, rfl, Kd.R_nil _ _ _ _ _, HB.out⟩
 ·have hl : levelsRes a0_0 l F s = ([], askErr a0_0 l F) := by unfold levelsRes; rw [if_neg h0]
  rw [hl] at h
  injection h with q1 q2
  subst q1
  rw [q2] at hA h0
  have HA := Aside0.mk hA
  have e1 : (r2 != 0) = true := by rw [bne_iff_ne]; exact h0
  clear q2 h0 hA hl
  go_enter Try.func53, Try.ntmps53
  go_wp2_with (first | ((with_reducible refine gate_dst (N := 3) rfl ?_); refine box_event ?hg (N := 3) ?hd (cs := #[.int .i64 a0_0, .bool a0_1, .slice A2 l.length c2]) (t := 24) ?hr ?_; (case hd => rfl); (case hg => rfl); (case hr => first | (go_simp; done) | (go_simp; rfl)); intro g3 hg w4 hbox hb; have n0_ := Aside0.mk (below_step HB.out hb); have B3 := Aside0.mk hbox; clear HB; have HB := n0_; clear n0_ hb hbox hg; have hb0 : w4.cell? ⟨g3, 0, none⟩ = some (.int .i64 a0_0) := (blk_cell B3.out 0).trans rfl; have hb1 : w4.cell? ⟨g3, 1, none⟩ = some (.bool a0_1) := (blk_cell B3.out 1).trans rfl; have hb2 : w4.cell? ⟨g3, 2, none⟩ = some (.slice A2 l.length c2) := (blk_cell B3.out 2).trans rfl) | (go_at_call 96; refine (static_Asked.calls k a0_0 a0_1 A2 c2 l A1 c1 F r2 _ (Kd.C_below H2.out HB.out) HC2.out (Kd.C_below H3.out HB.out) HC1.out HA.out).mono ?_; rintro e_ w5 ⟨rfl, hb⟩; have n0_ := Aside0.mk (below_step HB.out hb); have n1_ := Aside0.mk (blk_below B3.out hb); clear HB B3 hb0 hb1 hb2 hb; have HB := n0_; have B3 := n1_; clear n0_ n1_; have hb0 : w5.cell? ⟨g3, 0, none⟩ = some (.int .i64 a0_0) := (blk_cell B3.out 0).trans rfl; have hb1 : w5.cell? ⟨g3, 1, none⟩ = some (.bool a0_1) := (blk_cell B3.out 1).trans rfl; have hb2 : w5.cell? ⟨g3, 2, none⟩ = some (.slice A2 l.length c2) := (blk_cell B3.out 2).trans rfl) | fail)
  go_ret2
  exact ⟨_, rfl, Kd.R_nil _ _ _ _ _, HB.out⟩
theorem ends_of {n : Nat} {l : List S74} {s t : Int} (h : endsErr n l s t = 0) : netErr n l = 0 ∧ ∃ s0 t0 : Nat, s = s0 ∧ t = t0 ∧ s0 < n ∧ t0 < n ∧ s0 ≠ t0 := by
 unfold endsErr at h
 split at h
 ·rename_i hn
  split at h
  ·rename_i h1
   exact ⟨hn, s.toNat, t.toNat, by omega, by omega, by omega, by omega, by omega⟩
  ·omega
 ·rename_i hn; exact absurd h hn
set_option maxHeartbeats 2000000 in
set_option maxRecDepth 100000 in
theorem level_Path_calls (a0_0 : Int) (a0_1 : Bool) (A2 : Option Addr) (c2 : Nat) (l : List S74) (A1 : Option Addr) (c1 : Nat) (F : List Int) (s t : Int) (r1 : List S38) (r2 : Bool) (r3 : Int) (w : World) (hr2 : Kd.C k74 w A2 l.length l) (hc2 : l.length ≤ c2) (hr1 : Kd.C (Kd.int .i64) w A1 F.length F) (hc1 : F.length ≤ c1) (h : some (pathRes a0_0 l F s t) = some (r1, r2, r3)) :
  Calls Try.prog 56 #[.agg #[.int .i64 a0_0, .bool a0_1, .slice A2 l.length c2], .slice A1 F.length c1, .int .i64 s, .int .i64 t] w fun e w' => ∃ v0_ : Value, e = .returned (.tuple #[v0_, .bool r2, .int .i64 r3]) ∧ Kd.R k38 38 w' w.heap.size (fun _ => True) v0_ r1 ∧ Below w.heap.size w w' := by
 have hu24 := Try.underlying24
 injection h with h
 obtain ⟨K, hK⟩ := asked_ev a0_0 a0_1 l F
 have hA := hK K (Nat.le_refl _)
 obtain ⟨k, hk⟩ : ∃ k_, k_ = K := ⟨_, rfl⟩
 rw [← hk] at hA
 clear hK hk K
 obtain ⟨K, hK⟩ := ends_ev a0_0 a0_1 l s t
 have hE := hK K (Nat.le_refl _)
 obtain ⟨k2, hk⟩ : ∃ k_, k_ = K := ⟨_, rfl⟩
 rw [← hk] at hE
 clear hK hk K
 have H2 := Aside0.mk hr2
 have H3 := Aside0.mk hr1
 have HC2 := Aside0.mk hc2
 have HC1 := Aside0.mk hc1
 have HB := Aside0.mk (Below.refl w.heap.size w)
 clear hr2 hr1 hc2 hc1
 by_cases h0 : askErr a0_0 l F = 0
 ·rw [h0] at hA
  have HA := Aside0.mk hA
  clear hA
  by_cases h1 : endsErr a0_0 l s t = 0
  ·have hl : pathRes a0_0 l F s t = (wayP l F a0_0.toNat s.toNat t.toNat, decide (t.toNat ∈ nodes (bfP l F a0_0.toNat s.toNat)), 0) := by unfold pathRes; rw [if_pos h0, if_pos h1]
   rw [hl] at h
   rw [h1] at hE
   obtain ⟨n0, rfl, hR⟩ := right_of h0
   obtain ⟨_, s0, t0, rfl, rfl, hs0, ht0, hst0⟩ := ends_of h1
   rw [Int.toNat_natCast, Int.toNat_natCast, Int.toNat_natCast] at h
   injection h with q1 q2
   injection q2 with q2 q3
   subst q1
   subst q2
   subst q3
   have HR := Aside0.mk hR
   have HE := Aside0.mk hE
   have hn50 := hR.fifty
   clear h0 h1 hR hE hl
   go_enter Try.func56, Try.ntmps56
   go_wp2_with (first | ((with_reducible refine gate_dst (N := 4) rfl ?_); refine box_event ?hg (N := 4) ?hd (cs := #[.int .i64 (n0 : Int), .bool a0_1, .slice A2 l.length c2]) (t := 24) ?hr ?_; (case hd => rfl); (case hg => rfl); (case hr => first | (go_simp; done) | (go_simp; rfl)); intro g3 hg w4 hbox hb; have n0_ := Aside0.mk (below_step HB.out hb); have B3 := Aside0.mk hbox; clear HB; have HB := n0_; clear n0_ hb hbox hg; have hb0 : w4.cell? ⟨g3, 0, none⟩ = some (.int .i64 (n0 : Int)) := (blk_cell B3.out 0).trans rfl; have hb1 : w4.cell? ⟨g3, 1, none⟩ = some (.bool a0_1) := (blk_cell B3.out 1).trans rfl; have hb2 : w4.cell? ⟨g3, 2, none⟩ = some (.slice A2 l.length c2) := (blk_cell B3.out 2).trans rfl) | (go_at_call 96; refine (static_Asked.calls k (n0 : Int) a0_1 A2 c2 l A1 c1 F 0 _ (Kd.C_below H2.out HB.out) HC2.out (Kd.C_below H3.out HB.out) HC1.out HA.out).mono ?_; rintro e_ w5 ⟨rfl, hb⟩; have n0_ := Aside0.mk (below_step HB.out hb); have n1_ := Aside0.mk (blk_below B3.out hb); clear HB B3 hb0 hb1 hb2 hb; have HB := n0_; have B3 := n1_; clear n0_ n1_; have hb0 : w5.cell? ⟨g3, 0, none⟩ = some (.int .i64 (n0 : Int)) := (blk_cell B3.out 0).trans rfl; have hb1 : w5.cell? ⟨g3, 1, none⟩ = some (.bool a0_1) := (blk_cell B3.out 1).trans rfl; have hb2 : w5.cell? ⟨g3, 2, none⟩ = some (.slice A2 l.length c2) := (blk_cell B3.out 2).trans rfl) | (go_at_call 111; refine (static_Ends.calls k2 (n0 : Int) a0_1 A2 c2 l (s0 : Int) (t0 : Int) 0 _ (Kd.C_below H2.out HB.out) HC2.out HE.out).mono ?_; rintro e_ w6 ⟨rfl, hb⟩; have n0_ := Aside0.mk (below_step HB.out hb); have n1_ := Aside0.mk (blk_below B3.out hb); clear HB B3 hb0 hb1 hb2 hb; have HB := n0_; have B3 := n1_; clear n0_ n1_; have hb0 : w6.cell? ⟨g3, 0, none⟩ = some (.int .i64 (n0 : Int)) := (blk_cell B3.out 0).trans rfl; have hb1 : w6.cell? ⟨g3, 1, none⟩ = some (.bool a0_1) := (blk_cell B3.out 1).trans rfl; have hb2 : w6.cell? ⟨g3, 2, none⟩ = some (.slice A2 l.length c2) := (blk_cell B3.out 2).trans rfl) | (go_at_call 101; refine (at_calls n0 a0_1 A2 c2 l A1 c1 F.length _ (Kd.C_below H2.out HB.out) HC2.out (by omega) (by omega) (by have := HR.out.arcs; omega) (fun k hk => (HR.out.ends k hk).1) (fun k hk => (HR.out.ends k hk).2)).mono ?_; rintro e_ w7 ⟨vr, rfl, hS, hb⟩; obtain ⟨A4, c4, ev⟩ := Kd.S_slice hS; subst ev; have H4 := Aside0.mk (Kd.S_reads' hS).2.2; rw [rowsAt_len] at H4 ⊢; have n0_ := Aside0.mk (below_step HB.out hb); have n1_ := Aside0.mk (blk_below B3.out hb); clear HB B3 hb0 hb1 hb2 hb; have HB := n0_; have B3 := n1_; clear n0_ n1_; clear hS) | (go_at_call 112; refine (way_calls n0 a0_1 A2 c2 l A1 c1 F A4 c4 s0 t0 _ HR.out hs0 ht0 hst0 HC2.out HC1.out (Kd.C_below H2.out HB.out) (Kd.C_below H3.out HB.out) H4.out).mono ?_; rintro e_ w8 ⟨vw, rfl, hv, hb⟩; have HV := Aside0.mk (Kd.R_lower hv HB.out.size); have n0_ := Aside0.mk (below_step HB.out hb); clear HB hb hv; have HB := n0_; clear n0_) | fail)
   go_ret3
   exact ⟨_, rfl, HV.out, HB.out⟩
  ·have hl : pathRes a0_0 l F s t = ([], false, endsErr a0_0 l s t) := by unfold pathRes; rw [if_pos h0, if_neg h1]
   rw [hl] at h
   injection h with q1 q2
   injection q2 with q2 q3
   subst q1
   subst q2
   rw [q3] at hE h1
   have HE := Aside0.mk hE
   have e1 : (r3 != 0) = true := by rw [bne_iff_ne]; exact h1
   clear q3 h0 h1 hE hl
   go_enter Try.func56, Try.ntmps56
   go_wp2_with (first | ((with_reducible refine gate_dst (N := 4) rfl ?_); refine box_event ?hg (N := 4) ?hd (cs := #[.int .i64 a0_0, .bool a0_1, .slice A2 l.length c2]) (t := 24) ?hr ?_; (case hd => rfl); (case hg => rfl); (case hr => first | (go_simp; done) | (go_simp; rfl)); intro g3 hg w4 hbox hb; have n0_ := Aside0.mk (below_step HB.out hb); have B3 := Aside0.mk hbox; clear HB; have HB := n0_; clear n0_ hb hbox hg; have hb0 : w4.cell? ⟨g3, 0, none⟩ = some (.int .i64 a0_0) := (blk_cell B3.out 0).trans rfl; have hb1 : w4.cell? ⟨g3, 1, none⟩ = some (.bool a0_1) := (blk_cell B3.out 1).trans rfl; have hb2 : w4.cell? ⟨g3, 2, none⟩ = some (.slice A2 l.length c2) := (blk_cell B3.out 2).trans rfl) | (go_at_call 96; refine (static_Asked.calls k a0_0 a0_1 A2 c2 l A1 c1 F 0 _ (Kd.C_below H2.out HB.out) HC2.out (Kd.C_below H3.out HB.out) HC1.out HA.out).mono ?_; rintro e_ w5 ⟨rfl, hb⟩; have n0_ := Aside0.mk (below_step HB.out hb); have n1_ := Aside0.mk (blk_below B3.out hb); clear HB B3 hb0 hb1 hb2 hb; have HB := n0_; have B3 := n1_; clear n0_ n1_; have hb0 : w5.cell? ⟨g3, 0, none⟩ = some (.int .i64 a0_0) := (blk_cell B3.out 0).trans rfl; have hb1 : w5.cell? ⟨g3, 1, none⟩ = some (.bool a0_1) := (blk_cell B3.out 1).trans rfl; have hb2 : w5.cell? ⟨g3, 2, none⟩ = some (.slice A2 l.length c2) := (blk_cell B3.out 2).trans rfl) | (go_at_call 111; refine (static_Ends.calls k2 a0_0 a0_1 A2 c2 l s t r3 _ (Kd.C_below H2.out HB.out) HC2.out HE.out).mono ?_; rintro e_ w6 ⟨rfl, hb⟩; have n0_ := Aside0.mk (below_step HB.out hb); have n1_ := Aside0.mk (blk_below B3.out hb); clear HB B3 hb0 hb1 hb2 hb; have HB := n0_; have B3 := n1_; clear n0_ n1_; have hb0 : w6.cell? ⟨g3, 0, none⟩ = some (.int .i64 a0_0) := (blk_cell B3.out 0).trans rfl; have hb1 : w6.cell? ⟨g3, 1, none⟩ = some (.bool a0_1) := (blk_cell B3.out 1).trans rfl; have hb2 : w6.cell? ⟨g3, 2, none⟩ = some (.slice A2 l.length c2) := (blk_cell B3.out 2).trans rfl) | fail)
   go_ret3
   exact ⟨_, rfl, Kd.R_nil _ _ _ _ _, HB.out⟩
 ·have hl : pathRes a0_0 l F s t = ([], false, askErr a0_0 l F) := by unfold pathRes; rw [if_neg h0]
  rw [hl] at h
  injection h with q1 q2
  injection q2 with q2 q3
  subst q1
  subst q2
  rw [q3] at hA h0
  have HA := Aside0.mk hA
  have e1 : (r3 != 0) = true := by rw [bne_iff_ne]; exact h0
  clear q3 h0 hA hl hE
  go_enter Try.func56, Try.ntmps56
  go_wp2_with (first | ((with_reducible refine gate_dst (N := 4) rfl ?_); refine box_event ?hg (N := 4) ?hd (cs := #[.int .i64 a0_0, .bool a0_1, .slice A2 l.length c2]) (t := 24) ?hr ?_; (case hd => rfl); (case hg => rfl); (case hr => first | (go_simp; done) | (go_simp; rfl)); intro g3 hg w4 hbox hb; have n0_ := Aside0.mk (below_step HB.out hb); have B3 := Aside0.mk hbox; clear HB; have HB := n0_; clear n0_ hb hbox hg; have hb0 : w4.cell? ⟨g3, 0, none⟩ = some (.int .i64 a0_0) := (blk_cell B3.out 0).trans rfl; have hb1 : w4.cell? ⟨g3, 1, none⟩ = some (.bool a0_1) := (blk_cell B3.out 1).trans rfl; have hb2 : w4.cell? ⟨g3, 2, none⟩ = some (.slice A2 l.length c2) := (blk_cell B3.out 2).trans rfl) | (go_at_call 96; refine (static_Asked.calls k a0_0 a0_1 A2 c2 l A1 c1 F r3 _ (Kd.C_below H2.out HB.out) HC2.out (Kd.C_below H3.out HB.out) HC1.out HA.out).mono ?_; rintro e_ w5 ⟨rfl, hb⟩; have n0_ := Aside0.mk (below_step HB.out hb); have n1_ := Aside0.mk (blk_below B3.out hb); clear HB B3 hb0 hb1 hb2 hb; have HB := n0_; have B3 := n1_; clear n0_ n1_; have hb0 : w5.cell? ⟨g3, 0, none⟩ = some (.int .i64 a0_0) := (blk_cell B3.out 0).trans rfl; have hb1 : w5.cell? ⟨g3, 1, none⟩ = some (.bool a0_1) := (blk_cell B3.out 1).trans rfl; have hb2 : w5.cell? ⟨g3, 2, none⟩ = some (.slice A2 l.length c2) := (blk_cell B3.out 2).trans rfl) | fail)
  go_ret3
  exact ⟨_, rfl, Kd.R_nil _ _ _ _ _, HB.out⟩
end Go.Proofs.Ytkcpanpdipmmmaa.H
namespace Go.Proofs.Ytkcpanpdipmmmaa.P
open Go.RowKit Go.Proofs.YtkcpanpdipmmmaaW.PrintWords Go.Proofs.YtkcpanpdipmmmaaW.PrintLast Go.Proofs.YtkcpanpdipmmmaaW.PrintMore
attribute [local go_sem] max2_int min2_int max_two min_two max_three min_three max_four min_four
def level_Levels.f (a0_0 : Int) (a0_1 : Bool) (l0_2 : List (S74)) (l1 : List Int) (a2 : Int) : Option (List Int × Int) := some (H.levelsRes a0_0 l0_2 l1 a2)
theorem level_Levels.calls (a0_0 : Int) (a0_1 : Bool) (A0_2 : Option Addr) (c0_2 : Nat) (l0_2 : List (S74)) (A1 : Option Addr) (c1 : Nat) (l1 : List Int) (a2 : Int) (r1 : List Int) (r2 : Int) (w : World) (hr0_2 : Kd.C k74 w A0_2 l0_2.length l0_2) (hc0_2 : l0_2.length ≤ c0_2) (hr1 : Kd.C (Kd.int .i64) w A1 l1.length l1) (hc1 : l1.length ≤ c1) (h : level_Levels.f a0_0 a0_1 l0_2 l1 a2 = some (r1, r2)) :
  Calls Try.prog 53 #[.agg #[.int .i64 a0_0, .bool a0_1, .slice A0_2 l0_2.length c0_2], .slice A1 l1.length c1, .int .i64 a2] w fun e w' => ∃ v0_ : Value, e = .returned (.tuple #[v0_, .int .i64 r2]) ∧ Kd.R (Kd.int .i64) 3 w' w.heap.size (fun _ => True) v0_ r1 ∧ Below w.heap.size w w' := H.level_Levels_calls a0_0 a0_1 A0_2 c0_2 l0_2 A1 c1 l1 a2 r1 r2 w hr0_2 hc0_2 hr1 hc1 h
end Go.Proofs.Ytkcpanpdipmmmaa.P
namespace Go.Proofs.Ytkcpanpdipmmmaa.P
open Go.RowKit Go.Proofs.YtkcpanpdipmmmaaW.PrintWords Go.Proofs.YtkcpanpdipmmmaaW.PrintLast Go.Proofs.YtkcpanpdipmmmaaW.PrintMore
attribute [local go_sem] max2_int min2_int max_two min_two max_three min_three max_four min_four
def ebbtideref08_found_has.l0 : Nat → Int → Int → List Int → List (S38) → Option (Int)
 | 0, _, _, _, _ => none
 | k + 1, x1, x5, x448000, x448001 => if x5 < (x448000.length : Int) then (if 0 ≤ x5 then (if (rd x448000 x5) = x1 then (some x5) else (ebbtideref08_found_has.l0 k x1 (wrap64 (x5 + 1)) x448000 x448001)) else (none)) else (some (-1))
def ebbtideref08_found_has.f (k : Nat) (l0_0 : List Int) (l0_1 : List (S38)) (a1 : Int) : Option (Int) := ebbtideref08_found_has.l0 k a1 0 l0_0 l0_1
set_option maxHeartbeats 8000000 in
set_option maxRecDepth 100000 in
theorem ebbtideref08_found_has.calls (k : Nat) (A0_0 : Option Addr) (c0_0 : Nat) (l0_0 : List Int) (A0_1 : Option Addr) (c0_1 : Nat) (l0_1 : List (S38)) (a1 : Int) (r : Int) (w : World) (hr0_0 : Kd.C (Kd.int .i64) w A0_0 l0_0.length l0_0) (hc0_0 : l0_0.length ≤ c0_0) (hr0_1 : Kd.C k38 w A0_1 l0_1.length l0_1) (hc0_1 : l0_1.length ≤ c0_1) (h : ebbtideref08_found_has.f k l0_0 l0_1 a1 = some r) :
  Calls Try.prog 147 #[.agg #[.slice A0_0 l0_0.length c0_0, .slice A0_1 l0_1.length c0_1], .int .i64 a1] w fun e w' => e = .returned (.int .i64 r) ∧ Below w.heap.size w w' := by
 have hu161 := Try.underlying161
 have HR0_0 := Aside0.mk hr0_0
 have HC0_0 := Aside0.mk hc0_0
 clear hr0_0 hc0_0
 have HR0_1 := Aside0.mk hr0_1
 have HC0_1 := Aside0.mk hc0_1
 clear hr0_1 hc0_1
 have HB := Aside0.mk (Below.refl w.heap.size w)
 have H : (ebbtideref08_found_has.l0 k a1 0 l0_0 l0_1) = some r := h
 clear h
 have H' := Aside0.mk H
 clear H
 go_enter Try.func147, Try.ntmps147
 go_wp2_with (first | ((with_reducible refine gate_dst (N := 2) rfl ?_); refine box_event ?hg (N := 2) ?hd (cs := #[.slice A0_0 l0_0.length c0_0, .slice A0_1 l0_1.length c0_1]) (t := 161) ?hr ?_; (case hd => rfl); (case hg => rfl); (case hr => first | (go_simp; done) | (go_simp; rfl)); intro gb447 hg w3 hbox hb; have n0_ := Aside0.mk (below_step (by repeat (first | (with_reducible first | exact HB.out | apply below_alloc | apply pw_below_drewN | apply below_drew1) | exact HB.out)) hb); have n1_ := Aside0.mk (hbox); have n2_ := Aside0.mk ((by rw [hg]; exact (below_size (by repeat (first | (with_reducible first | exact HB.out | apply below_alloc | apply pw_below_drewN | apply below_drew1) | exact HB.out))) : w.heap.size ≤ gb447)); have n3_ := Aside0.mk ((by rw [hg]; exact (below_size (by repeat (first | (with_reducible first | exact HB.out | apply below_alloc | apply pw_below_drewN | apply below_drew1) | exact HB.out))) : w.heap.size ≤ gb447)); clear HB; have HB := n0_; have BK447 := n1_; have GW447 := n2_; have GE447 := n3_; clear n0_ n1_ n2_ n3_; clear hb hbox hg))
 go_loopg [5] k (fun kq v5 w' => ∃ (x5_1 : Int), v5 = .int .i64 x5_1 ∧ Aside0 (ebbtideref08_found_has.l0 kq a1 x5_1 l0_0 l0_1 = some r) ∧ Aside0 (kq ≤ k) ∧ Aside0 (w'.heap[gb447]? = some (.cells #[(.slice A0_0 l0_0.length c0_0), (.slice A0_1 l0_1.length c0_1)] 161 (0, 0))) ∧ Aside0 (Below w.heap.size w w'))
 case atStart => exact ⟨(0), (by first | rfl | (simp; done) | (simp [*]; done)), H', ⟨Nat.le_refl _⟩, ⟨by (with_reducible repeat (first | refine blk_drewN ?_ _ | refine blk_drew ?_ | refine blk_alloc ?_ _)); exact BK447.out⟩, ⟨by repeat (first | (with_reducible first | exact HB.out | apply below_alloc | apply pw_below_drewN | apply below_drew1 | refine below_set ?_ GE447.out) | exact HB.out)⟩⟩
 case round =>
  clear H'
  try clear c1
  try clear p2
  obtain ⟨x5_1, rfl, HA, HK1, BK447, HB⟩ := hrel
  cases gk with
  | zero => exact absurd HA.out (by simp [ebbtideref08_found_has.l0])
  | succ k1 =>
   have H := HA.out
   clear HA
   simp only [ebbtideref08_found_has.l0] at H
   by_cases c4 : x5_1 < (l0_0.length : Int)
   rotate_left
   ·rw [if_neg c4] at H
    have c4b0 : decide (x5_1 < (l0_0.length : Int)) = false := decide_eq_false c4
    clear c4
    obtain rfl := Option.some.inj H
    have hcz9_0 : wr.cell? ⟨gb447, 0, none⟩ = some (.slice A0_0 l0_0.length c0_0) := (blk_cell BK447.out 0).trans rfl
    have hcz9_1 : wr.cell? ⟨gb447, 1, none⟩ = some (.slice A0_1 l0_1.length c0_1) := (blk_cell BK447.out 1).trans rfl
    have hfz9_0 := blk_frozen BK447.out 0
    have hfz9_1 := blk_frozen BK447.out 1
    go_wp2
    go_ret
    exact ⟨by first | rfl | (simp [errW_none, errW_some] <;> rfl) | (simp [*, errW_none, errW_some] <;> rfl), by repeat (first | (with_reducible first | exact HB.out | apply below_alloc | apply pw_below_drewN | apply below_drew1 | refine below_set ?_ GE447.out) | exact HB.out)⟩
   rw [if_pos c4] at H
   have c4b0 : decide (x5_1 < (l0_0.length : Int)) = true := decide_eq_true c4
   clear c4
   by_cases c5 : 0 ≤ x5_1
   rotate_left
   ·rw [if_neg c5] at H
    exact absurd H (by simp)
   rw [if_pos c5] at H
   have c5b0 : decide (0 ≤ x5_1) = true := decide_eq_true c5
   clear c5
   by_cases c6 : (rd l0_0 x5_1) = a1
   ·rw [if_pos c6] at H
    have c6b0 : ((rd l0_0 x5_1) == a1) = true := beq_iff_eq.mpr c6
    have c6b1 : ((rd l0_0 x5_1) != a1) = false := bne_eq_false_iff_eq.mpr c6
    clear c6
    obtain rfl := Option.some.inj H
    have hcz7_0 : wr.cell? ⟨gb447, 0, none⟩ = some (.slice A0_0 l0_0.length c0_0) := (blk_cell BK447.out 0).trans rfl
    have hcz7_1 : wr.cell? ⟨gb447, 1, none⟩ = some (.slice A0_1 l0_1.length c0_1) := (blk_cell BK447.out 1).trans rfl
    have hfz7_0 := blk_frozen BK447.out 0
    have hfz7_1 := blk_frozen BK447.out 1
    have p448 : 0 ≤ (x5_1 : Int) := of_decide_eq_true (by first | (with_reducible assumption) | assumption)
    have q448 : x5_1 < (l0_0.length : Int) := of_decide_eq_true (by first | (with_reducible assumption) | assumption)
    obtain ⟨ad448, e448, hx448_0⟩ := Kd.at_int HR0_0.out x5_1 p448 q448
    cases e448
    replace hx448_0 := (HB.out.cell (World.block_lt_of_cell? w _ hx448_0)).trans hx448_0
    replace p448 := eq_true p448
    replace q448 := eq_true q448
    go_wp2
    go_ret
    exact ⟨by first | rfl | (simp [errW_none, errW_some] <;> rfl) | (simp [*, errW_none, errW_some] <;> rfl), by repeat (first | (with_reducible first | exact HB.out | apply below_alloc | apply pw_below_drewN | apply below_drew1 | refine below_set ?_ GE447.out) | exact HB.out)⟩
   rw [if_neg c6] at H
   have c6b0 : ((rd l0_0 x5_1) == a1) = false := beq_eq_false_iff_ne.mpr c6
   have c6b1 : ((rd l0_0 x5_1) != a1) = true := bne_iff_ne.mpr c6
   have H' := Aside0.mk H
   clear H
   have hcz8_0 : wr.cell? ⟨gb447, 0, none⟩ = some (.slice A0_0 l0_0.length c0_0) := (blk_cell BK447.out 0).trans rfl
   have hcz8_1 : wr.cell? ⟨gb447, 1, none⟩ = some (.slice A0_1 l0_1.length c0_1) := (blk_cell BK447.out 1).trans rfl
   have hfz8_0 := blk_frozen BK447.out 0
   have hfz8_1 := blk_frozen BK447.out 1
   have p448 : 0 ≤ (x5_1 : Int) := of_decide_eq_true (by first | (with_reducible assumption) | assumption)
   have q448 : x5_1 < (l0_0.length : Int) := of_decide_eq_true (by first | (with_reducible assumption) | assumption)
   obtain ⟨ad448, e448, hx448_0⟩ := Kd.at_int HR0_0.out x5_1 p448 q448
   cases e448
   replace hx448_0 := (HB.out.cell (World.block_lt_of_cell? w _ hx448_0)).trans hx448_0
   replace p448 := eq_true p448
   replace q448 := eq_true q448
   go_wp2
   go_roundg k1
   case measure => have := HK1.out; omega
   case rel => exact ⟨(wrap64 (x5_1 + 1)), (by first | rfl | (simp; done) | (simp [*]; done)), H', ⟨by have := HK1.out; omega⟩, ⟨by (with_reducible repeat (first | refine blk_drewN ?_ _ | refine blk_drew ?_ | refine blk_alloc ?_ _)); exact BK447.out⟩, ⟨by repeat (first | (with_reducible first | exact HB.out | apply below_alloc | apply pw_below_drewN | apply below_drew1 | refine below_set ?_ GE447.out) | exact HB.out)⟩⟩
end Go.Proofs.Ytkcpanpdipmmmaa.P
