/- What the law's row needs of these texts, taken out of them by wip/tool/mini.py: QAt QEndsLaw QRightOf QEndsRight QMaxLaw QFillWalk P119 QBehindDef P131 QReachedLaw QBehindWalk P132 P134 P139 P142 QOpen QCheckRef QMostLaw QMinLaw QLMincut. -/
import Derived.Test.YtkcpanpdipmmmaaMmmpdge
import Derived.Test.YtkcpanpdipmmmaaMlkgnkl
import Derived.Test.YtkcpanpdipmmmaaMnkeonh
import Derived.Deep.RegionHeld3
import Derived.Deep.DeepCutAuto
import Derived.Test.YtkcpanpdipmmmaaVghpldo
import Derived.Deep.Slices
import Derived.Deep.Fields
import Derived.ChangeSame
import Derived.ChangeArms
import Derived.OpenShut
set_option linter.unusedVariables false
set_option linter.unusedSimpArgs false
namespace Go.Proofs.Ytkcpanpdipmmmaa.H
open Go.RowKit Go.Proofs.YtkcpanpdipmmmaaW.PrintWords Go.Proofs.YtkcpanpdipmmmaaW.PrintLast Go.Proofs.YtkcpanpdipmmmaaW.PrintMore Go.Proofs.Ytkcpanpdipmmmaa.P
theorem infoRowS : (Try.prog.info? 34).map (fun i => (i.zero, i.size, i.bytes)) = some (some (.slice none 0 0), 1, 24) := by kernel_rfl
set_option maxHeartbeats 2000000 in
set_option maxRecDepth 100000 in
theorem at_calls (n0 : Nat) (a0_1 : Bool) (A0_2 : Option Addr) (c0_2 : Nat) (l0_2 : List S74) (A1 : Option Addr) (c1 n1 : Nat) (w : World) (hr0_2 : Kd.C k74 w A0_2 l0_2.length l0_2) (hc0_2 : l0_2.length ≤ c0_2) (h0 : 0 ≤ (n0 : Int)) (h1 : (n0 : Int) ≤ 1000000) (hl : l0_2.length ≤ 500000) (hE0 : ∀ k : Nat, k < l0_2.length → 0 ≤ eFrom (rd_T74 l0_2 k) ∧ eFrom (rd_T74 l0_2 k) < (n0 : Int)) (hE1 : ∀ k : Nat, k < l0_2.length → 0 ≤ eTo (rd_T74 l0_2 k) ∧ eTo (rd_T74 l0_2 k) < (n0 : Int)) :
  Calls Try.prog 101 #[.agg #[.int .i64 (n0 : Int), .bool a0_1, .slice A0_2 l0_2.length c0_2], .slice A1 n1 c1] w fun e w' => ∃ v0_ : Value, e = .returned (.agg #[.int .i64 (n0 : Int), .bool a0_1, .slice A0_2 l0_2.length c0_2, .slice A1 n1 c1, v0_]) ∧ Kd.S (Kd.slice 38 k38) 34 w' w.heap.size (fun _ => True) v0_ (rowsAt l0_2 n0 n0) ∧ Below w.heap.size w w' := by
 have hu24 := Try.underlying24
 have hu118 := Try.underlying118
 have HR0_2 := Aside0.mk hr0_2
 have HC0_2 := Aside0.mk hc0_2
 have HH0 := Aside0.mk h0
 have HH1 := Aside0.mk h1
 have HE0 := Aside0.mk hE0
 have HE1 := Aside0.mk hE1
 have HR0 := Aside0.mk hr0_2
 clear hr0_2 hc0_2 h0 h1 hE0 hE1
 have HB := Aside0.mk (Below.refl w.heap.size w)
 go_enter Try.func101, Try.ntmps101
 go_wp2_with (first | ((with_reducible refine gate_dst (N := 2) rfl ?_); refine box_event ?hg (N := 2) ?hd (cs := #[.int .i64 (n0 : Int), .bool a0_1, .slice A0_2 l0_2.length c0_2]) (t := 24) ?hr ?_; (case hd => rfl); (case hg => rfl); (case hr => first | (go_simp; done) | (go_simp; rfl)); intro gb111 hg w4 hbox hb; have n0_ := Aside0.mk (below_step (by repeat (first | (with_reducible first | exact HB.out | apply below_alloc | apply pw_below_drewN | apply below_drew1) | exact HB.out)) hb); have n1_ := Aside0.mk (hbox); have n2_ := Aside0.mk (Kd.C_below HR0_2.out hb); clear HB HR0_2; have HB := n0_; have BK111 := n1_; have HR0_2 := n2_; clear n0_ n1_ n2_; clear hb hbox hg) | ((with_reducible refine gate_dst (N := 4) rfl ?_); refine box_event ?hg (N := 4) ?hd (cs := #[.int .i64 0, .bool false, .slice none 0 0, .slice none 0 0, .slice none 0 0]) (t := 118) ?hr ?_; (case hd => rfl); (case hg => rfl); (case hr => first | (go_simp; done) | (go_simp; rfl)); intro gb4 hg w5 hbox hb; have GE4 : Aside0 (w.heap.size ≤ gb4) := ⟨by rw [hg]; exact HB.out.size⟩; have n0_ := Aside0.mk (below_step (by repeat (first | (with_reducible first | exact HB.out | apply below_alloc | apply pw_below_drewN | apply below_drew1) | exact HB.out)) hb); have n1_ := Aside0.mk (hbox); have n2_ := Aside0.mk (Kd.C_below HR0_2.out hb); have n3_ := Aside0.mk (blk_below BK111.out hb); clear HB HR0_2 BK111; have HB := n0_; have BK4 := n1_; have HR0_2 := n2_; have BK111 := n3_; clear n0_ n1_ n2_ n3_; clear hb hbox hg) | fail)
 obtain ⟨R0, hR0⟩ : ∃ y_ : List (List S38), y_ = List.replicate (n0 : Int).toNat [] := ⟨_, rfl⟩
 have NR0 := Aside0.mk hR0
 clear hR0
 refine start_ (n := 9) (S := (fun w' => w'.cell? ⟨gb111, 0, none⟩ = some (.int .i64 (n0 : Int)) ∧ w'.cell? ⟨gb111, 1, none⟩ = some (.bool a0_1) ∧ w'.cell? ⟨gb111, 2, none⟩ = some (.slice A0_2 l0_2.length c0_2))) (ds := []) #[false, false, false, false, false, false, false, false, false] (by kernel_rfl) rfl rfl ⟨(blk_cell BK111.out 0).trans rfl, (blk_cell BK111.out 1).trans rfl, (blk_cell BK111.out 2).trans rfl⟩ (fun hHeld => ?_)
 have n0_ := Aside0.mk (below_drew HB.out)
 have n1_ : Aside0 (w5.drew.heap[gb111]? = some (.cells #[.int .i64 (n0 : Int), .bool a0_1, .slice A0_2 l0_2.length c0_2] 24 (0, 0))) := ⟨BK111.out⟩
 have n2_ : Aside0 (w5.drew.heap[gb4]? = some (.cells #[.int .i64 0, .bool false, .slice none 0 0, .slice none 0 0, .slice none 0 0] 118 (0, 0))) := ⟨BK4.out⟩
 clear HB BK111 BK4
 have HB := n0_
 have BK111 := n1_
 have BK4 := n2_
 clear n0_ n1_ n2_
 generalize w5.drew = w6 at BK111 HB BK4 hHeld ⊢
 refine pure_ (i := 1) (N := some 14) (v := ?_) (a' := ?_) #[false, true, false, false, false, false, false, false, false] rfl rfl (by kernel_rfl) (fun _ _ _ h => h) (Or.inl ⟨by rfl, ?_⟩) ?_ ?_
 rotate_left
 ·intro w'
  go_simp
  with_reducible rfl
 rotate_left
 ·simp only [Act.put, List.setIfInBounds_toArray, List.set_cons_zero, List.set_cons_succ, i64_w, i32_w]
  rfl
 refine pure_ (i := 3) (N := some 16) (v := ?_) (a' := ?_) #[false, true, false, true, false, false, false, false, false] rfl rfl (by kernel_rfl) (fun _ _ _ h => h) (Or.inl ⟨by rfl, ?_⟩) ?_ ?_
 rotate_left
 ·intro w'
  go_simp
  with_reducible rfl
 rotate_left
 ·simp only [Act.put, List.setIfInBounds_toArray, List.set_cons_zero, List.set_cons_succ, i64_w, i32_w]
  rfl
 refine take_ (i := 0) (N := some 13) (v := ?_) (a' := ?_) #[true, true, false, true, false, false, false, false, false] rfl rfl (by kernel_rfl) (fun _ _ _ h => h) (Or.inl ⟨by rfl, ?_⟩) hHeld ?_ ?_
 rotate_left
 ·rintro w' ⟨s0, s1, s2⟩
  go_simp
  with_reducible rfl
 rotate_left
 ·simp only [Act.put, List.setIfInBounds_toArray, List.set_cons_zero, List.set_cons_succ, i64_w, i32_w]
  rfl
 refine take_ (i := 4) (N := some 17) (v := ?_) (a' := ?_) #[true, true, false, true, true, false, false, false, false] rfl rfl (by kernel_rfl) (fun _ _ _ h => h) (Or.inl ⟨by rfl, ?_⟩) hHeld ?_ ?_
 rotate_left
 ·rintro w' ⟨s0, s1, s2⟩
  go_simp
  with_reducible rfl
 rotate_left
 ·simp only [Act.put, List.setIfInBounds_toArray, List.set_cons_zero, List.set_cons_succ, i64_w, i32_w]
  rfl
 refine pure_ (i := 2) (N := some 15) (v := ?_) (a' := ?_) #[true, true, true, true, true, false, false, false, false] rfl rfl (by kernel_rfl) (fun _ _ _ h => h) (Or.inl ⟨by rfl, ?_⟩) ?_ ?_
 rotate_left
 ·intro w'
  go_simp
  with_reducible rfl
 rotate_left
 ·simp only [Act.put, List.setIfInBounds_toArray, List.set_cons_zero, List.set_cons_succ, i64_w, i32_w]
  rfl
 refine join_ (σ := Value × Nat) 1 #[true, true, true, true, true, true, true, true, false] (fun s_ => [(18, s_.1), (19, .agg #[.int .i64 (n0 : Int), .bool a0_1, .slice A0_2 l0_2.length c0_2, .slice A1 n1 c1, s_.1]), (5, .pointer (some ⟨s_.2, 0, none⟩))]) (fun s_ w' => (w'.cell? ⟨gb111, 0, none⟩ = some (.int .i64 (n0 : Int)) ∧ w'.cell? ⟨gb111, 1, none⟩ = some (.bool a0_1) ∧ w'.cell? ⟨gb111, 2, none⟩ = some (.slice A0_2 l0_2.length c0_2)) ∧ Kd.S (Kd.slice 38 k38) 34 w' w.heap.size (fun _ => True) s_.1 R0 ∧ w'.heap[gb111]? = some (.cells #[.int .i64 (n0 : Int), .bool a0_1, .slice A0_2 l0_2.length c0_2] 24 (0, 0)) ∧ w'.heap[s_.2]? = some (.cells #[.int .i64 0, .bool false, .slice none 0 0, .slice none 0 0, .slice none 0 0] 118 (0, 0)) ∧ w'.heap[gb4]? = some (.cells #[.int .i64 0, .bool false, .slice none 0 0, .slice none 0 0, .slice none 0 0] 118 (0, 0)) ∧ w.heap.size ≤ s_.2 ∧ gb111 ≠ s_.2 ∧ gb4 ≠ s_.2 ∧ Below w.heap.size w w') ?_ ?_
 rotate_left
 ·intro hCont
  refine two_ (i := 5) (j := 7) (Ni := some 18) (Nj := some 5) #[true, true, true, true, true, true, false, false, false] #[true, true, true, true, true, false, false, true, false] rfl rfl rfl rfl (by kernel_rfl) (by decide) (by decide) (fun K hK => ?_) (fun K hK => ?_)
  ·skip
   refine Kd.S_make_step (Kd.slice 38 k38) _ 34 (by rfl) (N := 18) rfl 116 _ _ rfl (n0 : Int) rfl rfl Try.underlying116 (.slice none 0 0) 24 infoRowS rfl (by decide) (by omega) [] (ok := fun _ => True) (okp := fun _ => True) ⟨_, rfl, Kd.R_nil _ _ _ _ _⟩ (fun _ hk => hk) trivial HH0.out (by have := HH1.out; omega) (Below.refl _ _) (Nat.le_refl _) ?_
   intro v18 w7 ho hb _ _
   rw [← NR0.out] at ho
   obtain ⟨Ao, co, eo⟩ := Kd.S_slice ho
   subst eo
   have n0_ := Aside0.mk (Kd.S_lower ho HB.out.size)
   have n1_ := Aside0.mk (blk_below BK111.out hb)
   have n2_ := Aside0.mk (blk_below BK4.out hb)
   have n3_ := Aside0.mk (below_step HB.out hb)
   clear BK111 BK4 HB ho hb
   have HO := n0_
   have BK111 := n1_
   have BK4 := n2_
   have HB := n3_
   clear n0_ n1_ n2_ n3_
   refine hK.out _ _ ⟨(blk_cell BK111.out 0).trans rfl, (blk_cell BK111.out 1).trans rfl, (blk_cell BK111.out 2).trans rfl⟩ (fun hHeld => ?_)
   clear hK K
   refine norm_ (a' := ?_) ?_ ?_
   rotate_left
   ·show Act.put _ (some 18) _ = _
    simp only [Act.put, List.setIfInBounds_toArray, List.set_cons_zero, List.set_cons_succ, i64_w, i32_w]
    rfl
   refine pure_ (i := 6) (N := some 19) (v := ?_) (a' := ?_) #[true, true, true, true, true, true, true, false, false] rfl rfl (by kernel_rfl) (fun _ _ _ h => h) (Or.inl ⟨by rfl, ?_⟩) ?_ ?_
   rotate_left
   ·intro w'
    go_simp
    with_reducible rfl
   rotate_left
   ·simp only [Act.put, List.setIfInBounds_toArray, List.set_cons_zero, List.set_cons_succ, i64_w, i32_w]
    rfl
   refine one_ (i := 7) (N := some 5) #[true, true, true, true, true, true, true, true, false] rfl rfl (by kernel_rfl) (by decide) (fun K hK => ?_)
   refine box_step ?hg (N := 5) ?hd (cs := #[.int .i64 0, .bool false, .slice none 0 0, .slice none 0 0, .slice none 0 0]) (t := 118) ?hr ?_; (case hd => rfl); (case hg => rfl); (case hr => first | (go_simp; done) | (go_simp; rfl))
   intro gb5 hg w8 hbox hb
   have n0_ := Aside0.mk hbox
   have n1_ := Aside0.mk (blk_below BK111.out hb)
   have n2_ := Aside0.mk (blk_below BK4.out hb)
   have n3_ := Aside0.mk (below_step HB.out hb)
   have n5_ : Aside0 (w.heap.size ≤ gb5) := ⟨by rw [hg]; exact HB.out.size⟩
   have n6_ : Aside0 (gb111 ≠ gb5) := ⟨by rw [hg]; exact Nat.ne_of_lt (blk_lt BK111.out)⟩
   have n7_ : Aside0 (gb4 ≠ gb5) := ⟨by rw [hg]; exact Nat.ne_of_lt (blk_lt BK4.out)⟩
   have n4_ := Aside0.mk (Kd.S_below HO.out hb)
   clear HO
   have HO := n4_
   clear n4_
   clear BK111 BK4 HB hbox hb hg
   have BK5 := n0_
   have BK111 := n1_
   have BK4 := n2_
   have HB := n3_
   have GE5 := n5_
   have NB111 := n6_
   have NB4 := n7_
   clear n0_ n1_ n2_ n3_ n5_ n6_ n7_
   refine hK.out _ _ ⟨(blk_cell BK111.out 0).trans rfl, (blk_cell BK111.out 1).trans rfl, (blk_cell BK111.out 2).trans rfl⟩ (fun hHeld => ?_)
   clear hK K
   refine norm_ (a' := ?_) ?_ ?_
   rotate_left
   ·show Act.put _ (some 5) _ = _
    simp only [Act.put, List.setIfInBounds_toArray, List.set_cons_zero, List.set_cons_succ, i64_w, i32_w]
    rfl
   exact norm_ (by (simp only [putAll, Act.put, List.setIfInBounds_toArray, List.set_cons_zero, List.set_cons_succ]) <;> rfl) (hCont (.slice Ao R0.length co, gb5) _ ⟨hHeld, HO.out, BK111.out, BK5.out, BK4.out, GE5.out, NB111.out, NB4.out, HB.out⟩)
  ·skip
   refine box_step ?hg (N := 5) ?hd (cs := #[.int .i64 0, .bool false, .slice none 0 0, .slice none 0 0, .slice none 0 0]) (t := 118) ?hr ?_; (case hd => rfl); (case hg => rfl); (case hr => first | (go_simp; done) | (go_simp; rfl))
   intro gb5 hg w7 hbox hb
   have n0_ := Aside0.mk hbox
   have n1_ := Aside0.mk (blk_below BK111.out hb)
   have n2_ := Aside0.mk (blk_below BK4.out hb)
   have n3_ := Aside0.mk (below_step HB.out hb)
   have n5_ : Aside0 (w.heap.size ≤ gb5) := ⟨by rw [hg]; exact HB.out.size⟩
   have n6_ : Aside0 (gb111 ≠ gb5) := ⟨by rw [hg]; exact Nat.ne_of_lt (blk_lt BK111.out)⟩
   have n7_ : Aside0 (gb4 ≠ gb5) := ⟨by rw [hg]; exact Nat.ne_of_lt (blk_lt BK4.out)⟩
   clear BK111 BK4 HB hbox hb hg
   have BK5 := n0_
   have BK111 := n1_
   have BK4 := n2_
   have HB := n3_
   have GE5 := n5_
   have NB111 := n6_
   have NB4 := n7_
   clear n0_ n1_ n2_ n3_ n5_ n6_ n7_
   refine hK.out _ _ ⟨(blk_cell BK111.out 0).trans rfl, (blk_cell BK111.out 1).trans rfl, (blk_cell BK111.out 2).trans rfl⟩ (fun hHeld => ?_)
   clear hK K
   refine norm_ (a' := ?_) ?_ ?_
   rotate_left
   ·show Act.put _ (some 5) _ = _
    simp only [Act.put, List.setIfInBounds_toArray, List.set_cons_zero, List.set_cons_succ, i64_w, i32_w]
    rfl
   refine one_ (i := 5) (N := some 18) #[true, true, true, true, true, true, false, true, false] rfl rfl (by kernel_rfl) (by decide) (fun K hK => ?_)
   refine Kd.S_make_step (Kd.slice 38 k38) _ 34 (by rfl) (N := 18) rfl 116 _ _ rfl (n0 : Int) rfl rfl Try.underlying116 (.slice none 0 0) 24 infoRowS rfl (by decide) (by omega) [] (ok := fun _ => True) (okp := fun _ => True) ⟨_, rfl, Kd.R_nil _ _ _ _ _⟩ (fun _ hk => hk) trivial HH0.out (by have := HH1.out; omega) (Below.refl _ _) (Nat.le_refl _) ?_
   intro v18 w8 ho hb _ _
   rw [← NR0.out] at ho
   obtain ⟨Ao, co, eo⟩ := Kd.S_slice ho
   subst eo
   have n0_ := Aside0.mk (Kd.S_lower ho HB.out.size)
   have n1_ := Aside0.mk (blk_below BK111.out hb)
   have n2_ := Aside0.mk (blk_below BK4.out hb)
   have n3_ := Aside0.mk (below_step HB.out hb)
   have n4_ := Aside0.mk (blk_below BK5.out hb)
   clear BK5
   have BK5 := n4_
   clear n4_
   clear BK111 BK4 HB ho hb
   have HO := n0_
   have BK111 := n1_
   have BK4 := n2_
   have HB := n3_
   clear n0_ n1_ n2_ n3_
   refine hK.out _ _ ⟨(blk_cell BK111.out 0).trans rfl, (blk_cell BK111.out 1).trans rfl, (blk_cell BK111.out 2).trans rfl⟩ (fun hHeld => ?_)
   clear hK K
   refine norm_ (a' := ?_) ?_ ?_
   rotate_left
   ·show Act.put _ (some 18) _ = _
    simp only [Act.put, List.setIfInBounds_toArray, List.set_cons_zero, List.set_cons_succ, i64_w, i32_w]
    rfl
   refine pure_ (i := 6) (N := some 19) (v := ?_) (a' := ?_) #[true, true, true, true, true, true, true, true, false] rfl rfl (by kernel_rfl) (fun _ _ _ h => h) (Or.inl ⟨by rfl, ?_⟩) ?_ ?_
   rotate_left
   ·intro w'
    go_simp
    with_reducible rfl
   rotate_left
   ·simp only [Act.put, List.setIfInBounds_toArray, List.set_cons_zero, List.set_cons_succ, i64_w, i32_w]
    rfl
   exact norm_ (by (simp only [putAll, Act.put, List.setIfInBounds_toArray, List.set_cons_zero, List.set_cons_succ]) <;> rfl) (hCont (.slice Ao R0.length co, gb5) _ ⟨hHeld, HO.out, BK111.out, BK5.out, BK4.out, GE5.out, NB111.out, NB4.out, HB.out⟩)
 rintro ⟨v18, gb5⟩ w9 ⟨hHeld, h0_, h1_, h2_, h3_, h4_, h5_, h6_, h7_⟩
 clear BK111 BK4 HB
 have HO := Aside0.mk h0_
 clear h0_
 have BK111 := Aside0.mk h1_
 clear h1_
 have BK5 := Aside0.mk h2_
 clear h2_
 have BK4 := Aside0.mk h3_
 clear h3_
 have GE5 := Aside0.mk h4_
 clear h4_
 have NB111 := Aside0.mk h5_
 clear h5_
 have NB4 := Aside0.mk h6_
 clear h6_
 have HB := Aside0.mk h7_
 clear h7_
 obtain ⟨Ao, co, eo⟩ := Kd.S_slice HO.out
 dsimp only at eo HO BK5 GE5 NB111 NB4
 subst eo
 refine norm_ (a' := ?_) ?_ ?_
 rotate_left
 ·simp only [putAll, Act.put, List.setIfInBounds_toArray, List.set_cons_zero, List.set_cons_succ]
  rfl
 refine one_ (i := 8) (N := none) #[true, true, true, true, true, true, true, true, true] rfl rfl (by kernel_rfl) (by decide) (fun K hK => ?_)
 have hs0 : w9.cell? ⟨gb5, 0, none⟩ = some (.int .i64 0) := (blk_cell BK5.out 0).trans rfl
 have hfs0 := blk_frozen BK5.out 0
 have hs1 : w9.cell? ⟨gb5, 1, none⟩ = some (.bool false) := (blk_cell BK5.out 1).trans rfl
 have hfs1 := blk_frozen BK5.out 1
 have hs2 : w9.cell? ⟨gb5, 2, none⟩ = some (.slice none 0 0) := (blk_cell BK5.out 2).trans rfl
 have hfs2 := blk_frozen BK5.out 2
 have hs3 : w9.cell? ⟨gb5, 3, none⟩ = some (.slice none 0 0) := (blk_cell BK5.out 3).trans rfl
 have hfs3 := blk_frozen BK5.out 3
 have hs4 : w9.cell? ⟨gb5, 4, none⟩ = some (.slice none 0 0) := (blk_cell BK5.out 4).trans rfl
 have hfs4 := blk_frozen BK5.out 4
 have n0_ : Aside0 ((((((w9.setCell ⟨gb5, 0, none⟩ (.int .i64 (n0 : Int))).setCell ⟨gb5, 1, none⟩ (.bool a0_1)).setCell ⟨gb5, 2, none⟩ (.slice A0_2 l0_2.length c0_2)).setCell ⟨gb5, 3, none⟩ (.slice A1 n1 c1)).setCell ⟨gb5, 4, none⟩ (.slice Ao R0.length co)).heap[gb5]? = some (.cells #[.int .i64 (n0 : Int), .bool a0_1, .slice A0_2 l0_2.length c0_2, .slice A1 n1 c1, .slice Ao R0.length co] 118 (0, 0))) := ⟨by
  refine blk_put (cs := #[.int .i64 (n0 : Int), .bool a0_1, .slice A0_2 l0_2.length c0_2, .slice A1 n1 c1, .slice none 0 0]) ?_ 4 _ rfl
  refine blk_put (cs := #[.int .i64 (n0 : Int), .bool a0_1, .slice A0_2 l0_2.length c0_2, .slice none 0 0, .slice none 0 0]) ?_ 3 _ rfl
  refine blk_put (cs := #[.int .i64 (n0 : Int), .bool a0_1, .slice none 0 0, .slice none 0 0, .slice none 0 0]) ?_ 2 _ rfl
  refine blk_put (cs := #[.int .i64 (n0 : Int), .bool false, .slice none 0 0, .slice none 0 0, .slice none 0 0]) ?_ 1 _ rfl
  refine blk_put (cs := #[.int .i64 0, .bool false, .slice none 0 0, .slice none 0 0, .slice none 0 0]) ?_ 0 _ rfl
  exact BK5.out⟩
 have n1_ : Aside0 ((((((w9.setCell ⟨gb5, 0, none⟩ (.int .i64 (n0 : Int))).setCell ⟨gb5, 1, none⟩ (.bool a0_1)).setCell ⟨gb5, 2, none⟩ (.slice A0_2 l0_2.length c0_2)).setCell ⟨gb5, 3, none⟩ (.slice A1 n1 c1)).setCell ⟨gb5, 4, none⟩ (.slice Ao R0.length co)).heap[gb111]? = some (.cells #[.int .i64 (n0 : Int), .bool a0_1, .slice A0_2 l0_2.length c0_2] 24 (0, 0))) := ⟨by
  refine blk_far ?_ NB111.out _
  refine blk_far ?_ NB111.out _
  refine blk_far ?_ NB111.out _
  refine blk_far ?_ NB111.out _
  refine blk_far ?_ NB111.out _
  exact BK111.out⟩
 have n2_ : Aside0 ((((((w9.setCell ⟨gb5, 0, none⟩ (.int .i64 (n0 : Int))).setCell ⟨gb5, 1, none⟩ (.bool a0_1)).setCell ⟨gb5, 2, none⟩ (.slice A0_2 l0_2.length c0_2)).setCell ⟨gb5, 3, none⟩ (.slice A1 n1 c1)).setCell ⟨gb5, 4, none⟩ (.slice Ao R0.length co)).heap[gb4]? = some (.cells #[.int .i64 0, .bool false, .slice none 0 0, .slice none 0 0, .slice none 0 0] 118 (0, 0))) := ⟨by
  refine blk_far ?_ NB4.out _
  refine blk_far ?_ NB4.out _
  refine blk_far ?_ NB4.out _
  refine blk_far ?_ NB4.out _
  refine blk_far ?_ NB4.out _
  exact BK4.out⟩
 have n3_ : Aside0 (Kd.S (Kd.slice 38 k38) 34 (((((w9.setCell ⟨gb5, 0, none⟩ (.int .i64 (n0 : Int))).setCell ⟨gb5, 1, none⟩ (.bool a0_1)).setCell ⟨gb5, 2, none⟩ (.slice A0_2 l0_2.length c0_2)).setCell ⟨gb5, 3, none⟩ (.slice A1 n1 c1)).setCell ⟨gb5, 4, none⟩ (.slice Ao R0.length co)) w.heap.size (fun _ => True) (.slice Ao R0.length co) R0) := ⟨Kd.S_mono (Kd.S_far (p := ⟨gb5, 4, none⟩) (Kd.S_far (p := ⟨gb5, 3, none⟩) (Kd.S_far (p := ⟨gb5, 2, none⟩) (Kd.S_far (p := ⟨gb5, 1, none⟩) (Kd.S_far (p := ⟨gb5, 0, none⟩) (Kd.S_types HO.out BK5.out (by decide)) (fun _ hk => hk.2) (.int .i64 (n0 : Int))) (fun _ hk => hk.2) (.bool a0_1)) (fun _ hk => hk.2) (.slice A0_2 l0_2.length c0_2)) (fun _ hk => hk.2) (.slice A1 n1 c1)) (fun _ hk => hk.2) (.slice Ao R0.length co)) (fun _ _ => trivial)⟩
 have n4_ : Aside0 (Below w.heap.size w (((((w9.setCell ⟨gb5, 0, none⟩ (.int .i64 (n0 : Int))).setCell ⟨gb5, 1, none⟩ (.bool a0_1)).setCell ⟨gb5, 2, none⟩ (.slice A0_2 l0_2.length c0_2)).setCell ⟨gb5, 3, none⟩ (.slice A1 n1 c1)).setCell ⟨gb5, 4, none⟩ (.slice Ao R0.length co))) := ⟨by repeat (first | exact HB.out | refine below_set ?_ GE5.out)⟩
 refine skip_ (w1 := (((((w9.setCell ⟨gb5, 0, none⟩ (.int .i64 (n0 : Int))).setCell ⟨gb5, 1, none⟩ (.bool a0_1)).setCell ⟨gb5, 2, none⟩ (.slice A0_2 l0_2.length c0_2)).setCell ⟨gb5, 3, none⟩ (.slice A1 n1 c1)).setCell ⟨gb5, 4, none⟩ (.slice Ao R0.length co))) (by rfl) rfl ?_ ?_
 ·go_simp
 clear hs0 hfs0 hs1 hfs1 hs2 hfs2 hs3 hfs3 hs4 hfs4
 refine hK.out _ _ ⟨(blk_cell n1_.out 0).trans rfl, (blk_cell n1_.out 1).trans rfl, (blk_cell n1_.out 2).trans rfl⟩ (fun hHeld => ?_)
 clear hK K BK5 BK111 BK4 HO HB hHeld
 have BK5 := n0_
 have BK111 := n1_
 have BK4 := n2_
 have HO := n3_
 have HB := n4_
 clear n0_ n1_ n2_ n3_ n4_
 refine done_ (by kernel_rfl) ?_
 generalize (((((w9.setCell ⟨gb5, 0, none⟩ (.int .i64 (n0 : Int))).setCell ⟨gb5, 1, none⟩ (.bool a0_1)).setCell ⟨gb5, 2, none⟩ (.slice A0_2 l0_2.length c0_2)).setCell ⟨gb5, 3, none⟩ (.slice A1 n1 c1)).setCell ⟨gb5, 4, none⟩ (.slice Ao R0.length co)) = w10 at BK5 BK111 BK4 HO HB ⊢
 go_wp2_with fail
 refine start_ (n := 6) (S := (fun w' => w'.cell? ⟨gb111, 0, none⟩ = some (.int .i64 (n0 : Int)) ∧ w'.cell? ⟨gb111, 1, none⟩ = some (.bool a0_1) ∧ w'.cell? ⟨gb111, 2, none⟩ = some (.slice A0_2 l0_2.length c0_2))) (ds := []) #[false, false, false, false, false, false] (by kernel_rfl) rfl rfl ⟨(blk_cell BK111.out 0).trans rfl, (blk_cell BK111.out 1).trans rfl, (blk_cell BK111.out 2).trans rfl⟩ (fun hHeld => ?_)
 have n0_ := Aside0.mk (below_drew HB.out)
 have n1_ : Aside0 (w10.drew.heap[gb111]? = some (.cells #[.int .i64 (n0 : Int), .bool a0_1, .slice A0_2 l0_2.length c0_2] 24 (0, 0))) := ⟨BK111.out⟩
 have n2_ : Aside0 (w10.drew.heap[gb4]? = some (.cells #[.int .i64 0, .bool false, .slice none 0 0, .slice none 0 0, .slice none 0 0] 118 (0, 0))) := ⟨BK4.out⟩
 have n3_ : Aside0 (w10.drew.heap[gb5]? = some (.cells #[.int .i64 (n0 : Int), .bool a0_1, .slice A0_2 l0_2.length c0_2, .slice A1 n1 c1, .slice Ao R0.length co] 118 (0, 0))) := ⟨BK5.out⟩
 have n4_ := Aside0.mk (Kd.S_drew HO.out)
 clear HB BK111 BK4 BK5 HO
 have HB := n0_
 have BK111 := n1_
 have BK4 := n2_
 have BK5 := n3_
 have HO := n4_
 clear n0_ n1_ n2_ n3_ n4_
 generalize w10.drew = w11 at BK111 HB BK4 BK5 HO hHeld ⊢
 refine take_ (i := 0) (N := some 20) (v := ?_) (a' := ?_) #[true, false, false, false, false, false] rfl rfl (by kernel_rfl) (fun _ _ _ h => h) (Or.inl ⟨by rfl, ?_⟩) hHeld ?_ ?_
 rotate_left
 ·rintro w' ⟨s0, s1, s2⟩
  go_simp
  with_reducible rfl
 rotate_left
 ·simp only [Act.put, List.setIfInBounds_toArray, List.set_cons_zero, List.set_cons_succ, i64_w, i32_w]
  rfl
 refine take_ (i := 2) (N := some 22) (v := ?_) (a' := ?_) #[true, false, true, false, false, false] rfl rfl (by kernel_rfl) (fun _ _ _ h => h) (Or.inl ⟨by rfl, ?_⟩) hHeld ?_ ?_
 rotate_left
 ·rintro w' ⟨s0, s1, s2⟩
  go_simp
  with_reducible rfl
 rotate_left
 ·simp only [Act.put, List.setIfInBounds_toArray, List.set_cons_zero, List.set_cons_succ, i64_w, i32_w]
  rfl
 refine one_ (i := 1) (N := some 21) #[true, true, true, false, false, false] rfl rfl (by kernel_rfl) (by decide) (fun K hK => ?_)
 refine goes_ Try.func141 (by kernel_rfl) rfl #[.agg #[.int .i64 (n0 : Int), .bool a0_1, .slice A0_2 l0_2.length c0_2]] (by rfl) rfl rfl (by (try simp only [List.map_toArray, List.map_cons, List.map_nil]); first | done | rfl) ?_
 refine (leaving_calls (n0 : Int) a0_1 A0_2 c0_2 l0_2 _ (Kd.C_below HR0.out HB.out) HC0_2.out HH0.out HH1.out (by omega) HE0.out).mono ?_
 rintro e w12 ⟨v21, rfl, hS, hb⟩
 refine ⟨_, rfl, ?_⟩
 have n0_ := Aside0.mk (below_step HB.out hb)
 have n1_ := Aside0.mk (blk_below BK111.out hb)
 have n2_ := Aside0.mk (blk_below BK4.out hb)
 have n3_ := Aside0.mk (blk_below BK5.out hb)
 have n4_ := Aside0.mk (Kd.S_below HO.out hb)
 have n5_ := Aside0.mk (Kd.S_lower hS HB.out.size)
 clear HB BK111 BK4 BK5 HO hS hb
 have HB := n0_
 have BK111 := n1_
 have BK4 := n2_
 have BK5 := n3_
 have HO := n4_
 have Hv21 := n5_
 clear n0_ n1_ n2_ n3_ n4_ n5_
 obtain ⟨Av21, cv21, ev21⟩ := Kd.S_slice Hv21.out
 subst ev21
 refine hK.out _ _ ⟨(blk_cell BK111.out 0).trans rfl, (blk_cell BK111.out 1).trans rfl, (blk_cell BK111.out 2).trans rfl⟩ (fun hHeld => ?_)
 clear hK K
 refine norm_ (a' := ?_) ?_ ?_
 rotate_left
 ·show Act.put _ (some 21) _ = _
  simp only [Act.put, List.setIfInBounds_toArray, List.set_cons_zero, List.set_cons_succ, i64_w, i32_w]
  rfl
 refine one_ (i := 3) (N := some 23) #[true, true, true, true, false, false] rfl rfl (by kernel_rfl) (by decide) (fun K hK => ?_)
 refine goes_ Try.func142 (by kernel_rfl) rfl #[.agg #[.int .i64 (n0 : Int), .bool a0_1, .slice A0_2 l0_2.length c0_2]] (by rfl) rfl rfl (by (try simp only [List.map_toArray, List.map_cons, List.map_nil]); first | done | rfl) ?_
 refine (coming_calls (n0 : Int) a0_1 A0_2 c0_2 l0_2 _ (Kd.C_below HR0.out HB.out) HC0_2.out HH0.out HH1.out (by omega) HE1.out).mono ?_
 rintro e w13 ⟨v23, rfl, hS, hb⟩
 refine ⟨_, rfl, ?_⟩
 have n0_ := Aside0.mk (below_step HB.out hb)
 have n1_ := Aside0.mk (blk_below BK111.out hb)
 have n2_ := Aside0.mk (blk_below BK4.out hb)
 have n3_ := Aside0.mk (blk_below BK5.out hb)
 have n4_ := Aside0.mk (Kd.S_below HO.out hb)
 have n5_ := Aside0.mk (Kd.S_lower hS HB.out.size)
 have m_ := Aside0.mk (Kd.S_below Hv21.out hb)
 clear Hv21
 have Hv21 := m_
 clear m_
 clear HB BK111 BK4 BK5 HO hS hb
 have HB := n0_
 have BK111 := n1_
 have BK4 := n2_
 have BK5 := n3_
 have HO := n4_
 have Hv23 := n5_
 clear n0_ n1_ n2_ n3_ n4_ n5_
 obtain ⟨Av23, cv23, ev23⟩ := Kd.S_slice Hv23.out
 subst ev23
 refine hK.out _ _ ⟨(blk_cell BK111.out 0).trans rfl, (blk_cell BK111.out 1).trans rfl, (blk_cell BK111.out 2).trans rfl⟩ (fun hHeld => ?_)
 clear hK K
 refine norm_ (a' := ?_) ?_ ?_
 rotate_left
 ·show Act.put _ (some 23) _ = _
  simp only [Act.put, List.setIfInBounds_toArray, List.set_cons_zero, List.set_cons_succ, i64_w, i32_w]
  rfl
 refine pure_ (i := 4) (N := some 6) (v := ?_) (a' := ?_) #[true, true, true, true, true, false] rfl rfl (by kernel_rfl) (fun _ _ _ h => h) (Or.inl ⟨by rfl, ?_⟩) ?_ ?_
 rotate_left
 ·intro w'
  go_simp
  with_reducible rfl
 rotate_left
 ·simp only [Act.put, List.setIfInBounds_toArray, List.set_cons_zero, List.set_cons_succ, i64_w, i32_w]
  rfl
 refine pure_ (i := 5) (N := some 7) (v := ?_) (a' := ?_) #[true, true, true, true, true, true] rfl rfl (by kernel_rfl) (fun _ _ _ h => h) (Or.inl ⟨by rfl, ?_⟩) ?_ ?_
 rotate_left
 ·intro w'
  go_simp
  with_reducible rfl
 rotate_left
 ·simp only [Act.put, List.setIfInBounds_toArray, List.set_cons_zero, List.set_cons_succ, i64_w, i32_w]
  rfl
 refine done_ (by kernel_rfl) ?_
 go_wp2_with fail
 have HR0' : Aside0 (R0 = rowsAt l0_2 n0 0) := ⟨by rw [NR0.out, rowsAt_zero, Int.toNat_natCast]⟩
 have hlR : R0.length = n0 := by rw [HR0'.out, rowsAt_len]
 rw [hlR] at HO BK5 ⊢
 rw [HR0'.out] at HO
 simp only [Int.toNat_natCast] at Hv21 Hv23 ⊢
 clear hHeld
 obtain ⟨L0, hL0⟩ : ∃ L, L = lsAt eFrom l0_2 n0 l0_2.length := ⟨_, rfl⟩
 obtain ⟨L1, hL1⟩ : ∃ L, L = lsAt eTo l0_2 n0 l0_2.length := ⟨_, rfl⟩
 have hn0 : L0.length = n0 := by rw [hL0, lsAt_len]
 have hn1 : L1.length = n0 := by rw [hL1, lsAt_len]
 rw [← hL0, hn0] at Hv21 ⊢
 rw [← hL1, hn1] at Hv23 ⊢
 have HL0 := Aside0.mk hL0
 have HL1 := Aside0.mk hL1
 clear hL0 hL1
 clear HR0' hlR HR0_2
 have hn6 : n0 ≤ 1000000 := by have := HH1.out; omega
 go_loopw [26] (fun v26 w' => ∃ k : Nat, k ≤ n0 ∧ v26 = .int .i64 k ∧ Aside0 (Kd.S (Kd.slice 38 k38) 34 w' w.heap.size (fun _ => True) (.slice Ao n0 co) (rowsAt l0_2 n0 k)) ∧ Aside0 (w'.heap[gb111]? = some (.cells #[.int .i64 (n0 : Int), .bool a0_1, .slice A0_2 l0_2.length c0_2] 24 (0, 0))) ∧ Aside0 (w'.heap[gb4]? = some (.cells #[.int .i64 0, .bool false, .slice none 0 0, .slice none 0 0, .slice none 0 0] 118 (0, 0))) ∧ Aside0 (w'.heap[gb5]? = some (.cells #[.int .i64 (n0 : Int), .bool a0_1, .slice A0_2 l0_2.length c0_2, .slice A1 n1 c1, .slice Ao n0 co] 118 (0, 0))) ∧ Aside0 (Kd.S (Kd.slice 3 (Kd.int .i64)) 25 w' w.heap.size (fun _ => True) (.slice Av21 n0 cv21) L0) ∧ Aside0 (Kd.S (Kd.slice 3 (Kd.int .i64)) 25 w' w.heap.size (fun _ => True) (.slice Av23 n0 cv23) L1) ∧ Aside0 (Below w.heap.size w w')) (fun v26 _ => n0 - (intOf v26).toNat)
 case atStart => exact ⟨0, Nat.zero_le _, rfl, HO, BK111, BK4, BK5, Hv21, Hv23, HB⟩
 case round =>
  clear HO BK111 BK4 BK5 Hv21 Hv23 HB
  obtain ⟨k, hk, rfl, HO, BK111, BK4, BK5, Hv21, Hv23, HB⟩ := hrel
  by_cases hlt : k < n0
  ·have pk : 0 ≤ ((k : Nat) : Int) := by omega
   have qk : ((k : Nat) : Int) < (n0 : Int) := by omega
   have c27 : decide ((k : Int) < (n0 : Int)) = true := decide_eq_true qk
   obtain ⟨ad0, AA0, cc0, e_, hx_, hl_, _⟩ := at_L7 (Kd.S_reads' Hv21.out).2.2 (k : Int) pk (by rw [hn0]; omega)
   cases e_
   obtain ⟨ce_, hce_, hM_, hcc_⟩ := Kd.S_get Hv21.out [] (k : Int) pk qk
   obtain ⟨ve_, rfl, ge_⟩ := hM_
   have hv_ := hcc_ 0 _ rfl
   rw [Nat.add_zero, show ((Kd.slice 3 (Kd.int .i64))).sz = 1 from rfl, Nat.mul_one] at hv_
   replace hv_ := Option.some.inj (hv_.symm.trans hx_)
   rw [hv_] at ge_
   obtain ⟨LL0, hLL0⟩ : ∃ L, L = rd_L7 L0 (k : Int) := ⟨_, rfl⟩
   have HLL0 : Aside0 (Kd.R (Kd.int .i64) 3 wr w.heap.size (fun _ => True) (.slice AA0 LL0.length cc0) LL0) := ⟨by rw [hLL0]; exact Kd.R_mono ge_ (fun _ _ => trivial)⟩
   rw [← hLL0] at hx_
   simp only [Int.toNat_natCast] at hx_
   have HELL0 := Aside0.mk hLL0
   clear ge_ hv_ hcc_ hce_ hl_ hLL0
   have hxLL0 := hx_
   clear hx_
   obtain ⟨go, co2, eo, gbase, glt, cl, HG⟩ := Kd.S_form HO.out (by rw [rowsAt_len]; omega)
   rw [rowsAt_len] at eo
   injection eo with ea _ ec
   subst ea
   subst ec
   have GBO := Aside0.mk gbase
   clear gbase glt HG
   have HLE0 : Aside0 (LL0.length ≤ 500000) := ⟨by rw [HELL0.out, HL0.out]; exact Nat.le_trans (lsAt_row _ _ _ _ _) hl⟩
   go_wp2_with fail
   have hLL0 := HLE0.out
   obtain ⟨wo1, hwo1⟩ : ∃ x_ : World, x_ = wr := ⟨_, rfl⟩
   subst hwo1
   go_loopw [34] (fun v_ w' => ∃ j : Nat, j ≤ LL0.length ∧ v_ = .int .i64 j ∧ Aside0 (Kd.S (Kd.slice 38 k38) 34 w' w.heap.size (fun _ => True) (.slice (some ⟨go, 0, none⟩) n0 co) ((rowsAt l0_2 n0 k).set k (([] : List S38) ++ (LL0.take j).map (fun i => (⟨i, false⟩ : S38))))) ∧ Aside0 (w'.heap[gb111]? = some (.cells #[.int .i64 (n0 : Int), .bool a0_1, .slice A0_2 l0_2.length c0_2] 24 (0, 0))) ∧ Aside0 (w'.heap[gb4]? = some (.cells #[.int .i64 0, .bool false, .slice none 0 0, .slice none 0 0, .slice none 0 0] 118 (0, 0))) ∧ Aside0 (w'.heap[gb5]? = some (.cells #[.int .i64 (n0 : Int), .bool a0_1, .slice A0_2 l0_2.length c0_2, .slice A1 n1 c1, .slice (some ⟨go, 0, none⟩) n0 co] 118 (0, 0))) ∧ Aside0 (Kd.S (Kd.slice 3 (Kd.int .i64)) 25 w' w.heap.size (fun _ => True) (.slice (some ad0) n0 cv21) L0) ∧ Aside0 (Kd.S (Kd.slice 3 (Kd.int .i64)) 25 w' w.heap.size (fun _ => True) (.slice Av23 n0 cv23) L1) ∧ Aside0 (Kd.R (Kd.int .i64) 3 w' w.heap.size (fun _ => True) (.slice AA0 LL0.length cc0) LL0) ∧ Aside0 (Below w.heap.size w w')) (fun v_ _ => LL0.length - (intOf v_).toNat)
   case atStart => exact ⟨0, Nat.zero_le _, rfl, ⟨by rw [List.take_zero, List.map_nil, List.append_nil, rowsAt_self l0_2 n0 k hlt]; exact HO.out⟩, BK111, BK4, BK5, Hv21, Hv23, HLL0, HB⟩
   case round =>
    clear HO BK111 BK4 BK5 Hv21 Hv23 HLL0 HB
    obtain ⟨j, hj, rfl, HO, BK111, BK4, BK5, Hv21, Hv23, HLL0, HB⟩ := hrel
    by_cases hltj : j < LL0.length
    ·have pj : 0 ≤ ((j : Nat) : Int) := by omega
     have qj : ((j : Nat) : Int) < (LL0.length : Int) := by omega
     have cj : decide ((j : Int) < (LL0.length : Int)) = true := decide_eq_true qj
     obtain ⟨adj, eadj, hxj⟩ := Kd.at_int (Kd.R_reads' HLL0.out).2.2 (j : Int) pj qj
     cases eadj
     simp only [Int.toNat_natCast] at hxj
     have HST := Aside0.mk (row_step ([] : List S38) LL0 false j hltj)
     obtain ⟨xj, hxv⟩ : ∃ x_, x_ = rd LL0 (j : Int) := ⟨_, rfl⟩
     obtain ⟨RW, hRW⟩ : ∃ r_, r_ = (([] : List S38) ++ (LL0.take j).map (fun i => (⟨i, false⟩ : S38))) := ⟨_, rfl⟩
     have HRL : Aside0 (RW.length ≤ 1000000) := ⟨by rw [hRW]; simp; have := HLE0.out; omega⟩
     rw [← hRW, ← hxv] at HST
     obtain ⟨RW2, hRW2⟩ : ∃ r_, r_ = (([] : List S38) ++ (LL0.take (j + 1)).map (fun i => (⟨i, false⟩ : S38))) := ⟨_, rfl⟩
     rw [← hRW2] at HST
     have HRW2 := Aside0.mk hRW2
     clear hRW2
     rw [← hxv] at hxj
     rw [← hRW] at HO
     have HRW := Aside0.mk hRW
     have HXV := Aside0.mk hxv
     clear hRW hxv
     obtain ⟨oki, c_, _, hM_, hcc_, _, _, hH_⟩ := Kd.S_elem HO.out [] (k : Int) pk qk
     obtain ⟨vr, rfl, hR_⟩ := hM_
     rw [show ((rowsAt l0_2 n0 k).set k RW).getD (k : Int).toNat [] = RW from rd_set (rowsAt l0_2 n0 k) k RW (by rw [rowsAt_len]; exact hlt)] at hR_
     obtain ⟨Ar, cr, er⟩ := Kd.R_slice hR_
     subst er
     have hx4 := hcc_ 0 _ rfl
     rw [show ((Kd.slice 38 k38)).sz = 1 from rfl, Nat.mul_one, Nat.add_zero, Int.toNat_natCast] at hx4
     have UU := Aside0.mk hR_
     have HH := Aside0.mk hH_
     clear hcc_ hR_ hH_
     have hx5 : wr.cell? ⟨gb5, 4, none⟩ = some (.slice (some ⟨go, 0, none⟩) n0 co) := (blk_cell BK5.out 4).trans rfl
     go_wp2_with fail
     refine start_ (n := 14) (S := fun w' => w'.cell? ⟨gb5, 4, none⟩ = some (.slice (some ⟨go, 0, none⟩) n0 co) ∧ w'.cell? ⟨go, k, none⟩ = some (.slice Ar RW.length cr)) (ds := [13]) #[false, false, false, false, false, false, false, false, false, false, false, false, false, false] (by kernel_rfl) rfl rfl ⟨hx5, hx4⟩ (fun hHeld => ?_)
     have m0_ := Aside0.mk (below_drew HB.out)
     have m1_ := Aside0.mk ((show wr.drew.heap[gb111]? = _ from BK111.out))
     have m2_ := Aside0.mk ((show wr.drew.heap[gb4]? = _ from BK4.out))
     have m3_ := Aside0.mk ((show wr.drew.heap[gb5]? = _ from BK5.out))
     have m4_ := Aside0.mk (Kd.S_drew Hv21.out)
     have m5_ := Aside0.mk (Kd.S_drew Hv23.out)
     have m6_ := Aside0.mk (Kd.R_drew HLL0.out)
     have m7_ := Aside0.mk (Kd.R_drew UU.out)
     have m8_ := Aside0.mk (Kd.H_drew HH.out)
     clear HB BK111 BK4 BK5 Hv21 Hv23 HLL0 UU HH
     have HB := m0_
     clear m0_
     have BK111 := m1_
     clear m1_
     have BK4 := m2_
     clear m2_
     have BK5 := m3_
     clear m3_
     have Hv21 := m4_
     clear m4_
     have Hv23 := m5_
     clear m5_
     have HLL0 := m6_
     clear m6_
     have UU := m7_
     clear m7_
     have HH := m8_
     clear m8_
     clear HO hxj hx5 hx4
     generalize wr.drew = w14 at HB BK111 BK4 BK5 Hv21 Hv23 HLL0 UU HH hHeld ⊢
     refine pure_ (i := 0) (N := some 38) (v := ?_) (a' := ?_) #[true, false, false, false, false, false, false, false, false, false, false, false, false, false] rfl rfl (by kernel_rfl) (fun _ _ _ h => h) (Or.inl ⟨by rfl, ?_⟩) ?_ ?_
     rotate_left
     ·intro w'
      go_simp
      with_reducible rfl
     rotate_left
     ·simp only [Act.put, List.setIfInBounds_toArray, List.set_cons_zero, List.set_cons_succ, i64_w, i32_w]
      rfl
     refine pure_ (i := 2) (N := some 40) (v := ?_) (a' := ?_) #[true, false, true, false, false, false, false, false, false, false, false, false, false, false] rfl rfl (by kernel_rfl) (fun _ _ _ h => h) (Or.inl ⟨by rfl, ?_⟩) ?_ ?_
     rotate_left
     ·intro w'
      go_simp
      with_reducible rfl
     rotate_left
     ·simp only [Act.put, List.setIfInBounds_toArray, List.set_cons_zero, List.set_cons_succ, i64_w, i32_w]
      rfl
     refine pure_ (i := 3) (N := some 41) (v := ?_) (a' := ?_) #[true, false, true, true, false, false, false, false, false, false, false, false, false, false] rfl rfl (by kernel_rfl) (fun _ _ _ h => h) (Or.inl ⟨by rfl, ?_⟩) ?_ ?_
     rotate_left
     ·intro w'
      go_simp
      with_reducible rfl
     rotate_left
     ·simp only [Act.put, List.setIfInBounds_toArray, List.set_cons_zero, List.set_cons_succ, i64_w, i32_w]
      rfl
     refine pure_ (i := 5) (N := some 43) (v := ?_) (a' := ?_) #[true, false, true, true, false, true, false, false, false, false, false, false, false, false] rfl rfl (by kernel_rfl) (fun _ _ _ h => h) (Or.inl ⟨by rfl, ?_⟩) ?_ ?_
     rotate_left
     ·intro w'
      go_simp
      with_reducible rfl
     rotate_left
     ·simp only [Act.put, List.setIfInBounds_toArray, List.set_cons_zero, List.set_cons_succ, i64_w, i32_w]
      rfl
     refine pure_ (i := 8) (N := some 46) (v := ?_) (a' := ?_) #[true, false, true, true, false, true, false, false, true, false, false, false, false, false] rfl rfl (by kernel_rfl) (fun _ _ _ h => h) (Or.inl ⟨by rfl, ?_⟩) ?_ ?_
     rotate_left
     ·intro w'
      go_simp
      with_reducible rfl
     rotate_left
     ·simp only [Act.put, List.setIfInBounds_toArray, List.set_cons_zero, List.set_cons_succ, i64_w, i32_w]
      rfl
     refine pure_ (i := 9) (N := some 47) (v := ?_) (a' := ?_) #[true, false, true, true, false, true, false, false, true, true, false, false, false, false] rfl rfl (by kernel_rfl) (fun _ _ _ h => h) (Or.inl ⟨by rfl, ?_⟩) ?_ ?_
     rotate_left
     ·intro w'
      go_simp
      with_reducible rfl
     rotate_left
     ·simp only [Act.put, List.setIfInBounds_toArray, List.set_cons_zero, List.set_cons_succ, i64_w, i32_w]
      rfl
     refine take_ (i := 1) (N := some 39) (v := ?_) (a' := ?_) #[true, true, true, true, false, true, false, false, true, true, false, false, false, false] rfl rfl (by kernel_rfl) (fun _ _ _ h => h) (Or.inl ⟨by rfl, ?_⟩) hHeld ?_ ?_
     rotate_left
     ·rintro w' ⟨s0, s1⟩
      go_simp
      with_reducible rfl
     rotate_left
     ·simp only [Act.put, List.setIfInBounds_toArray, List.set_cons_zero, List.set_cons_succ, i64_w, i32_w]
      rfl
     refine take_ (i := 4) (N := some 42) (v := ?_) (a' := ?_) #[true, true, true, true, true, true, false, false, true, true, false, false, false, false] rfl rfl (by kernel_rfl) (fun _ _ _ h => h) (Or.inl ⟨by rfl, ?_⟩) hHeld ?_ ?_
     rotate_left
     ·rintro w' ⟨s0, s1⟩
      go_simp
      with_reducible rfl
     rotate_left
     ·simp only [Act.put, List.setIfInBounds_toArray, List.set_cons_zero, List.set_cons_succ, i64_w, i32_w]
      rfl
     refine pure_ (i := 6) (N := some 44) (v := ?_) (a' := ?_) #[true, true, true, true, true, true, true, false, true, true, false, false, false, false] rfl rfl (by kernel_rfl) (fun _ _ _ h => h) (Or.inl ⟨by rfl, ?_⟩) ?_ ?_
     rotate_left
     ·intro w'
      go_simp
      with_reducible rfl
     rotate_left
     ·simp only [Act.put, List.setIfInBounds_toArray, List.set_cons_zero, List.set_cons_succ, i64_w, i32_w]
      rfl
     refine take_ (i := 7) (N := some 45) (v := ?_) (a' := ?_) #[true, true, true, true, true, true, true, true, true, true, false, false, false, false] rfl rfl (by kernel_rfl) (fun _ _ _ h => h) (Or.inl ⟨by rfl, ?_⟩) hHeld ?_ ?_
     rotate_left
     ·rintro w' ⟨s0, s1⟩
      go_simp
      with_reducible rfl
     rotate_left
     ·simp only [Act.put, List.setIfInBounds_toArray, List.set_cons_zero, List.set_cons_succ, i64_w, i32_w]
      rfl
     refine one_ (i := 10) (N := some 48) #[true, true, true, true, true, true, true, true, true, true, true, false, false, false] rfl rfl (by kernel_rfl) (by decide) (fun K hK => ?_)
     refine value_ (w1 := ?_) (v := ?_) (by rfl) rfl ?_ ?_
     rotate_left 2
     ·go_simp
      constructor
      ·rfl
      ·rfl
     refine hK.out _ _ ⟨(blk_cell (blk_alloc BK5.out _) 4).trans rfl, (World.cell?_alloc_lt _ _ _ (World.block_lt_of_cell? _ _ hHeld.2)).trans hHeld.2⟩ (fun hHeld2 => ?_)
     clear hK K hHeld2
     refine norm_ (a' := ?_) ?_ ?_
     rotate_left
     ·show Act.put _ (some 48) _ = _
      simp only [Act.put, List.setIfInBounds_toArray, List.set_cons_zero, List.set_cons_succ, i64_w, i32_w]
      rfl
     refine one_ (i := 11) (N := some 49) #[true, true, true, true, true, true, true, true, true, true, true, true, false, false] rfl rfl (by kernel_rfl) (by decide) (fun K hK => ?_)
     refine Kd.R_append_step k38 (w0 := w) w.heap.size (by rfl) (.tmp 45) (.tmp 48) 34 38 (.agg #[(.int .i64 0), (.bool false)]) 16 rfl Try.underlying34 info38 rfl (by decide) (by omega) (.slice Ar RW.length cr) RW (⟨xj, false⟩ : S38) [.int .i64 xj, .bool false] (fun k_ => oki k_ ∨ ((fun _ => True)) k_ ∧ w14.heap.size ≤ k_) (fun _ => False) rfl rfl ?aP (fun _ hk => hk.elim) ?aF ?aO ?aB ?aS ?aL ?_
     (case aP => exact k38_mkM _ _ _ (⟨xj, false⟩ : S38))
     (case aF => exact fun k_ hk => .inr ⟨trivial, hk⟩)
     (case aO => exact Kd.R_mono UU.out (fun _ hk => .inl hk))
     (case aB => exact HB.out)
     (case aS => exact HB.out.size)
     (case aL => have := HRL.out; omega)
     intro v_ w16 ho hb hg hat
     clear hat
     have m0_ := Aside0.mk (blk_grown BK111.out hg (Kd.R_ne UU.out BK111.out (by decide)))
     have m1_ := Aside0.mk (blk_grown BK4.out hg (Kd.R_ne UU.out BK4.out (by decide)))
     have m2_ := Aside0.mk (blk_grown BK5.out hg (Kd.R_ne UU.out BK5.out (by decide)))
     have m3_ := Aside0.mk (Kd.S_over' Hv21.out (Kd.R_typed UU.out) (by decide) hg)
     have m4_ := Aside0.mk (Kd.S_over' Hv23.out (Kd.R_typed UU.out) (by decide) hg)
     have m5_ := Aside0.mk (Kd.R_over' HLL0.out (Kd.R_typed UU.out) (by decide) hg)
     have m6_ := Aside0.mk (Kd.H_grown (Kd.H_widen HH.out) hg (fun k_ e_ => .inl (UU.out.1 k_ e_)))
     have m7_ := Aside0.mk (hb)
     have m8_ := Aside0.mk (ho)
     clear BK111 BK4 BK5 Hv21 Hv23 HLL0 HH HB UU
     have BK111 := m0_
     clear m0_
     have BK4 := m1_
     clear m1_
     have BK5 := m2_
     clear m2_
     have Hv21 := m3_
     clear m3_
     have Hv23 := m4_
     clear m4_
     have HLL0 := m5_
     clear m5_
     have HH := m6_
     clear m6_
     have HB := m7_
     clear m7_
     have UU := m8_
     clear m8_
     rw [← HST.out] at UU
     obtain ⟨A2, c2, e2⟩ := Kd.R_slice UU.out
     subst e2
     obtain ⟨_, _, hraw, _, _, hcc_, _⟩ := Kd.H_raw HH.out pk qk
     obtain ⟨_, hfr_⟩ := Kd.H_at HH.out pk qk
     have hx4 := hcc_ 0 _ rfl
     have hf4 := hfr_ 0
     rw [show ((Kd.slice 38 k38)).sz = 1 from rfl, Nat.mul_one, Nat.add_zero, Int.toNat_natCast] at hx4 hf4
     have HRAW := Aside0.mk hraw
     clear hcc_ hfr_ hraw ho hb hg
     refine hK.out _ _ ⟨(blk_cell BK5.out 4).trans rfl, hx4⟩ (fun hHeld => ?_)
     clear hK K
     refine norm_ (a' := ?_) ?_ ?_
     rotate_left
     ·show Act.put _ (some 49) _ = _
      simp only [Act.put, List.setIfInBounds_toArray, List.set_cons_zero, List.set_cons_succ, i64_w, i32_w]
      rfl
     refine pure_ (i := 12) (N := some 50) (v := ?_) (a' := ?_) #[true, true, true, true, true, true, true, true, true, true, true, true, true, false] rfl rfl (by kernel_rfl) (fun _ _ _ h => h) (Or.inl ⟨by rfl, ?_⟩) ?_ ?_
     rotate_left
     ·intro w'
      go_simp
      with_reducible rfl
     rotate_left
     ·simp only [Act.put, List.setIfInBounds_toArray, List.set_cons_zero, List.set_cons_succ, i64_w, i32_w]
      rfl
     have HP := Kd.S_seg0 HH.out pk qk (seg := [.slice A2 RW2.length c2]) (j := 0) (show 1 ≤ 1 from by decide) (x' := RW2) (Kd.M_row UU.out) (fun _ hk => hk)
     rw [show ((Kd.slice 38 k38)).sz = 1 from rfl, Nat.mul_one, Nat.add_zero, Int.toNat_natCast, List.set_set] at HP
     have HG2 : w16.grownBy (w16.setCell ⟨go, k, none⟩ (.slice A2 RW2.length c2)) (some go) := HP.2
     have HO := Aside0.mk (show Kd.S (Kd.slice 38 k38) 34 (w16.setCell ⟨go, k, none⟩ (.slice A2 RW2.length c2)) w.heap.size (fun _ => True) (.slice (some ⟨go, 0, none⟩) n0 co) ((rowsAt l0_2 n0 k).set k RW2) from HP.1)
     refine last_ (i := 13) (N := none) #[true, true, true, true, true, true, true, true, true, true, true, true, true, true] rfl rfl (by kernel_rfl) (by decide) (fun K hK => ?_)
     refine skip_ (w1 := w16.setCell ⟨go, k, none⟩ (.slice A2 RW2.length c2)) (by rfl) rfl ?_ ?_
     ·go_simp
     refine hK.out _ _ ?_
     clear hK K
     have m0_ := Aside0.mk (blk_grown BK111.out HG2 (Kd.R_ne HRAW.out BK111.out (by decide)))
     have m1_ := Aside0.mk (blk_grown BK4.out HG2 (Kd.R_ne HRAW.out BK4.out (by decide)))
     have m2_ := Aside0.mk (blk_grown BK5.out HG2 (Kd.R_ne HRAW.out BK5.out (by decide)))
     have m3_ := Aside0.mk (Kd.S_over' Hv21.out (Kd.R_typed HRAW.out) (by decide) HG2)
     have m4_ := Aside0.mk (Kd.S_over' Hv23.out (Kd.R_typed HRAW.out) (by decide) HG2)
     have m5_ := Aside0.mk (Kd.R_over' HLL0.out (Kd.R_typed HRAW.out) (by decide) HG2)
     have m6_ := Aside0.mk ((below_set HB.out GBO.out : Below w.heap.size w (w16.setCell ⟨go, k, none⟩ (.slice A2 RW2.length c2))))
     clear BK111 BK4 BK5 Hv21 Hv23 HLL0 HB
     have BK111 := m0_
     clear m0_
     have BK4 := m1_
     clear m1_
     have BK5 := m2_
     clear m2_
     have Hv21 := m3_
     clear m3_
     have Hv23 := m4_
     clear m4_
     have HLL0 := m5_
     clear m5_
     have HB := m6_
     clear m6_
     clear HP HG2 HRAW UU HH hHeld hx4 hf4
     refine done_ (by kernel_rfl) ?_
     generalize w16.setCell ⟨go, k, none⟩ (.slice A2 RW2.length c2) = w17 at HO BK111 BK4 BK5 Hv21 Hv23 HLL0 HB ⊢
     rw [HRW2.out] at HO
     clear HRW2 HST HRW
     go_wp2_with fail
     go_roundw
     case rel => exact ⟨j + 1, by omega, by first | rfl | go_num, HO, BK111, BK4, BK5, Hv21, Hv23, HLL0, HB⟩
     case measure => simp [intOf] <;> omega
    ·have ej : j = LL0.length := by omega
     subst ej
     rw [List.take_length] at HO
     have cj : decide ((LL0.length : Int) < (LL0.length : Int)) = false := decide_eq_false (by omega)
     have hlenx : True := trivial
     obtain ⟨ad1, AA1, cc1, e_, hx_, hl_, _⟩ := at_L7 (Kd.S_reads' Hv23.out).2.2 (k : Int) pk (by rw [hn1]; omega)
     cases e_
     obtain ⟨ce_, hce_, hM_, hcc_⟩ := Kd.S_get Hv23.out [] (k : Int) pk qk
     obtain ⟨ve_, rfl, ge_⟩ := hM_
     have hv_ := hcc_ 0 _ rfl
     rw [Nat.add_zero, show ((Kd.slice 3 (Kd.int .i64))).sz = 1 from rfl, Nat.mul_one] at hv_
     replace hv_ := Option.some.inj (hv_.symm.trans hx_)
     rw [hv_] at ge_
     obtain ⟨LL1, hLL1⟩ : ∃ L, L = rd_L7 L1 (k : Int) := ⟨_, rfl⟩
     have HLL1 : Aside0 (Kd.R (Kd.int .i64) 3 wr w.heap.size (fun _ => True) (.slice AA1 LL1.length cc1) LL1) := ⟨by rw [hLL1]; exact Kd.R_mono ge_ (fun _ _ => trivial)⟩
     rw [← hLL1] at hx_
     simp only [Int.toNat_natCast] at hx_
     have HELL1 := Aside0.mk hLL1
     clear ge_ hv_ hcc_ hce_ hl_ hLL1
     have hxLL1 := hx_
     clear hx_
     have HLE1 : Aside0 (LL1.length ≤ 500000) := ⟨by rw [HELL1.out, HL1.out]; exact Nat.le_trans (lsAt_row _ _ _ _ _) hl⟩
     go_wp2_with fail
     have hLL1 := HLE1.out
     obtain ⟨wo2, hwo2⟩ : ∃ x_ : World, x_ = wr := ⟨_, rfl⟩
     subst hwo2
     go_loopw [57] (fun v_ w' => ∃ j : Nat, j ≤ LL1.length ∧ v_ = .int .i64 j ∧ Aside0 (Kd.S (Kd.slice 38 k38) 34 w' w.heap.size (fun _ => True) (.slice (some ⟨go, 0, none⟩) n0 co) ((rowsAt l0_2 n0 k).set k ((([] : List S38) ++ LL0.map (fun i => (⟨i, false⟩ : S38))) ++ (LL1.take j).map (fun i => (⟨i, true⟩ : S38))))) ∧ Aside0 (w'.heap[gb111]? = some (.cells #[.int .i64 (n0 : Int), .bool a0_1, .slice A0_2 l0_2.length c0_2] 24 (0, 0))) ∧ Aside0 (w'.heap[gb4]? = some (.cells #[.int .i64 0, .bool false, .slice none 0 0, .slice none 0 0, .slice none 0 0] 118 (0, 0))) ∧ Aside0 (w'.heap[gb5]? = some (.cells #[.int .i64 (n0 : Int), .bool a0_1, .slice A0_2 l0_2.length c0_2, .slice A1 n1 c1, .slice (some ⟨go, 0, none⟩) n0 co] 118 (0, 0))) ∧ Aside0 (Kd.S (Kd.slice 3 (Kd.int .i64)) 25 w' w.heap.size (fun _ => True) (.slice (some ad0) n0 cv21) L0) ∧ Aside0 (Kd.S (Kd.slice 3 (Kd.int .i64)) 25 w' w.heap.size (fun _ => True) (.slice (some ad1) n0 cv23) L1) ∧ Aside0 (Kd.R (Kd.int .i64) 3 w' w.heap.size (fun _ => True) (.slice AA1 LL1.length cc1) LL1) ∧ Aside0 (Below w.heap.size w w')) (fun v_ _ => LL1.length - (intOf v_).toNat)
     case atStart => exact ⟨0, Nat.zero_le _, rfl, ⟨by rw [List.take_zero, List.map_nil, List.append_nil]; exact HO.out⟩, BK111, BK4, BK5, Hv21, Hv23, HLL1, HB⟩
     case round =>
      clear HO BK111 BK4 BK5 Hv21 Hv23 HLL1 HB
      obtain ⟨j, hj, rfl, HO, BK111, BK4, BK5, Hv21, Hv23, HLL1, HB⟩ := hrel
      by_cases hltj : j < LL1.length
      ·have pj : 0 ≤ ((j : Nat) : Int) := by omega
       have qj : ((j : Nat) : Int) < (LL1.length : Int) := by omega
       have cj : decide ((j : Int) < (LL1.length : Int)) = true := decide_eq_true qj
       obtain ⟨adj, eadj, hxj⟩ := Kd.at_int (Kd.R_reads' HLL1.out).2.2 (j : Int) pj qj
       cases eadj
       simp only [Int.toNat_natCast] at hxj
       have HST := Aside0.mk (row_step (([] : List S38) ++ LL0.map (fun i => (⟨i, false⟩ : S38))) LL1 true j hltj)
       obtain ⟨xj, hxv⟩ : ∃ x_, x_ = rd LL1 (j : Int) := ⟨_, rfl⟩
       obtain ⟨RW, hRW⟩ : ∃ r_, r_ = ((([] : List S38) ++ LL0.map (fun i => (⟨i, false⟩ : S38))) ++ (LL1.take j).map (fun i => (⟨i, true⟩ : S38))) := ⟨_, rfl⟩
       have HRL : Aside0 (RW.length ≤ 1000000) := ⟨by rw [hRW]; simp; have := HLE0.out; have := HLE1.out; omega⟩
       rw [← hRW, ← hxv] at HST
       obtain ⟨RW2, hRW2⟩ : ∃ r_, r_ = ((([] : List S38) ++ LL0.map (fun i => (⟨i, false⟩ : S38))) ++ (LL1.take (j + 1)).map (fun i => (⟨i, true⟩ : S38))) := ⟨_, rfl⟩
       rw [← hRW2] at HST
       have HRW2 := Aside0.mk hRW2
       clear hRW2
       rw [← hxv] at hxj
       rw [← hRW] at HO
       have HRW := Aside0.mk hRW
       have HXV := Aside0.mk hxv
       clear hRW hxv
       obtain ⟨oki, c_, _, hM_, hcc_, _, _, hH_⟩ := Kd.S_elem HO.out [] (k : Int) pk qk
       obtain ⟨vr, rfl, hR_⟩ := hM_
       rw [show ((rowsAt l0_2 n0 k).set k RW).getD (k : Int).toNat [] = RW from rd_set (rowsAt l0_2 n0 k) k RW (by rw [rowsAt_len]; exact hlt)] at hR_
       obtain ⟨Ar, cr, er⟩ := Kd.R_slice hR_
       subst er
       have hx4 := hcc_ 0 _ rfl
       rw [show ((Kd.slice 38 k38)).sz = 1 from rfl, Nat.mul_one, Nat.add_zero, Int.toNat_natCast] at hx4
       have UU := Aside0.mk hR_
       have HH := Aside0.mk hH_
       clear hcc_ hR_ hH_
       have hx5 : wr.cell? ⟨gb5, 4, none⟩ = some (.slice (some ⟨go, 0, none⟩) n0 co) := (blk_cell BK5.out 4).trans rfl
       go_wp2_with fail
       refine start_ (n := 14) (S := fun w' => w'.cell? ⟨gb5, 4, none⟩ = some (.slice (some ⟨go, 0, none⟩) n0 co) ∧ w'.cell? ⟨go, k, none⟩ = some (.slice Ar RW.length cr)) (ds := [13]) #[false, false, false, false, false, false, false, false, false, false, false, false, false, false] (by kernel_rfl) rfl rfl ⟨hx5, hx4⟩ (fun hHeld => ?_)
       have m0_ := Aside0.mk (below_drew HB.out)
       have m1_ := Aside0.mk ((show wr.drew.heap[gb111]? = _ from BK111.out))
       have m2_ := Aside0.mk ((show wr.drew.heap[gb4]? = _ from BK4.out))
       have m3_ := Aside0.mk ((show wr.drew.heap[gb5]? = _ from BK5.out))
       have m4_ := Aside0.mk (Kd.S_drew Hv21.out)
       have m5_ := Aside0.mk (Kd.S_drew Hv23.out)
       have m6_ := Aside0.mk (Kd.R_drew HLL1.out)
       have m7_ := Aside0.mk (Kd.R_drew UU.out)
       have m8_ := Aside0.mk (Kd.H_drew HH.out)
       clear HB BK111 BK4 BK5 Hv21 Hv23 HLL1 UU HH
       have HB := m0_
       clear m0_
       have BK111 := m1_
       clear m1_
       have BK4 := m2_
       clear m2_
       have BK5 := m3_
       clear m3_
       have Hv21 := m4_
       clear m4_
       have Hv23 := m5_
       clear m5_
       have HLL1 := m6_
       clear m6_
       have UU := m7_
       clear m7_
       have HH := m8_
       clear m8_
       clear HO hxj hx5 hx4
       generalize wr.drew = w14 at HB BK111 BK4 BK5 Hv21 Hv23 HLL1 UU HH hHeld ⊢
       refine pure_ (i := 0) (N := some 61) (v := ?_) (a' := ?_) #[true, false, false, false, false, false, false, false, false, false, false, false, false, false] rfl rfl (by kernel_rfl) (fun _ _ _ h => h) (Or.inl ⟨by rfl, ?_⟩) ?_ ?_
       rotate_left
       ·intro w'
        go_simp
        with_reducible rfl
       rotate_left
       ·simp only [Act.put, List.setIfInBounds_toArray, List.set_cons_zero, List.set_cons_succ, i64_w, i32_w]
        rfl
       refine pure_ (i := 2) (N := some 63) (v := ?_) (a' := ?_) #[true, false, true, false, false, false, false, false, false, false, false, false, false, false] rfl rfl (by kernel_rfl) (fun _ _ _ h => h) (Or.inl ⟨by rfl, ?_⟩) ?_ ?_
       rotate_left
       ·intro w'
        go_simp
        with_reducible rfl
       rotate_left
       ·simp only [Act.put, List.setIfInBounds_toArray, List.set_cons_zero, List.set_cons_succ, i64_w, i32_w]
        rfl
       refine pure_ (i := 3) (N := some 64) (v := ?_) (a' := ?_) #[true, false, true, true, false, false, false, false, false, false, false, false, false, false] rfl rfl (by kernel_rfl) (fun _ _ _ h => h) (Or.inl ⟨by rfl, ?_⟩) ?_ ?_
       rotate_left
       ·intro w'
        go_simp
        with_reducible rfl
       rotate_left
       ·simp only [Act.put, List.setIfInBounds_toArray, List.set_cons_zero, List.set_cons_succ, i64_w, i32_w]
        rfl
       refine pure_ (i := 5) (N := some 66) (v := ?_) (a' := ?_) #[true, false, true, true, false, true, false, false, false, false, false, false, false, false] rfl rfl (by kernel_rfl) (fun _ _ _ h => h) (Or.inl ⟨by rfl, ?_⟩) ?_ ?_
       rotate_left
       ·intro w'
        go_simp
        with_reducible rfl
       rotate_left
       ·simp only [Act.put, List.setIfInBounds_toArray, List.set_cons_zero, List.set_cons_succ, i64_w, i32_w]
        rfl
       refine pure_ (i := 8) (N := some 69) (v := ?_) (a' := ?_) #[true, false, true, true, false, true, false, false, true, false, false, false, false, false] rfl rfl (by kernel_rfl) (fun _ _ _ h => h) (Or.inl ⟨by rfl, ?_⟩) ?_ ?_
       rotate_left
       ·intro w'
        go_simp
        with_reducible rfl
       rotate_left
       ·simp only [Act.put, List.setIfInBounds_toArray, List.set_cons_zero, List.set_cons_succ, i64_w, i32_w]
        rfl
       refine pure_ (i := 9) (N := some 70) (v := ?_) (a' := ?_) #[true, false, true, true, false, true, false, false, true, true, false, false, false, false] rfl rfl (by kernel_rfl) (fun _ _ _ h => h) (Or.inl ⟨by rfl, ?_⟩) ?_ ?_
       rotate_left
       ·intro w'
        go_simp
        with_reducible rfl
       rotate_left
       ·simp only [Act.put, List.setIfInBounds_toArray, List.set_cons_zero, List.set_cons_succ, i64_w, i32_w]
        rfl
       refine take_ (i := 1) (N := some 62) (v := ?_) (a' := ?_) #[true, true, true, true, false, true, false, false, true, true, false, false, false, false] rfl rfl (by kernel_rfl) (fun _ _ _ h => h) (Or.inl ⟨by rfl, ?_⟩) hHeld ?_ ?_
       rotate_left
       ·rintro w' ⟨s0, s1⟩
        go_simp
        with_reducible rfl
       rotate_left
       ·simp only [Act.put, List.setIfInBounds_toArray, List.set_cons_zero, List.set_cons_succ, i64_w, i32_w]
        rfl
       refine take_ (i := 4) (N := some 65) (v := ?_) (a' := ?_) #[true, true, true, true, true, true, false, false, true, true, false, false, false, false] rfl rfl (by kernel_rfl) (fun _ _ _ h => h) (Or.inl ⟨by rfl, ?_⟩) hHeld ?_ ?_
       rotate_left
       ·rintro w' ⟨s0, s1⟩
        go_simp
        with_reducible rfl
       rotate_left
       ·simp only [Act.put, List.setIfInBounds_toArray, List.set_cons_zero, List.set_cons_succ, i64_w, i32_w]
        rfl
       refine pure_ (i := 6) (N := some 67) (v := ?_) (a' := ?_) #[true, true, true, true, true, true, true, false, true, true, false, false, false, false] rfl rfl (by kernel_rfl) (fun _ _ _ h => h) (Or.inl ⟨by rfl, ?_⟩) ?_ ?_
       rotate_left
       ·intro w'
        go_simp
        with_reducible rfl
       rotate_left
       ·simp only [Act.put, List.setIfInBounds_toArray, List.set_cons_zero, List.set_cons_succ, i64_w, i32_w]
        rfl
       refine take_ (i := 7) (N := some 68) (v := ?_) (a' := ?_) #[true, true, true, true, true, true, true, true, true, true, false, false, false, false] rfl rfl (by kernel_rfl) (fun _ _ _ h => h) (Or.inl ⟨by rfl, ?_⟩) hHeld ?_ ?_
       rotate_left
       ·rintro w' ⟨s0, s1⟩
        go_simp
        with_reducible rfl
       rotate_left
       ·simp only [Act.put, List.setIfInBounds_toArray, List.set_cons_zero, List.set_cons_succ, i64_w, i32_w]
        rfl
       refine one_ (i := 10) (N := some 71) #[true, true, true, true, true, true, true, true, true, true, true, false, false, false] rfl rfl (by kernel_rfl) (by decide) (fun K hK => ?_)
       refine value_ (w1 := ?_) (v := ?_) (by rfl) rfl ?_ ?_
       rotate_left 2
       ·go_simp
        constructor
        ·rfl
        ·rfl
       refine hK.out _ _ ⟨(blk_cell (blk_alloc BK5.out _) 4).trans rfl, (World.cell?_alloc_lt _ _ _ (World.block_lt_of_cell? _ _ hHeld.2)).trans hHeld.2⟩ (fun hHeld2 => ?_)
       clear hK K hHeld2
       refine norm_ (a' := ?_) ?_ ?_
       rotate_left
       ·show Act.put _ (some 71) _ = _
        simp only [Act.put, List.setIfInBounds_toArray, List.set_cons_zero, List.set_cons_succ, i64_w, i32_w]
        rfl
       refine one_ (i := 11) (N := some 72) #[true, true, true, true, true, true, true, true, true, true, true, true, false, false] rfl rfl (by kernel_rfl) (by decide) (fun K hK => ?_)
       refine Kd.R_append_step k38 (w0 := w) w.heap.size (by rfl) (.tmp 68) (.tmp 71) 34 38 (.agg #[(.int .i64 0), (.bool false)]) 16 rfl Try.underlying34 info38 rfl (by decide) (by omega) (.slice Ar RW.length cr) RW (⟨xj, true⟩ : S38) [.int .i64 xj, .bool true] (fun k_ => oki k_ ∨ ((fun _ => True)) k_ ∧ w14.heap.size ≤ k_) (fun _ => False) rfl rfl ?aP (fun _ hk => hk.elim) ?aF ?aO ?aB ?aS ?aL ?_
       (case aP => exact k38_mkM _ _ _ (⟨xj, true⟩ : S38))
       (case aF => exact fun k_ hk => .inr ⟨trivial, hk⟩)
       (case aO => exact Kd.R_mono UU.out (fun _ hk => .inl hk))
       (case aB => exact HB.out)
       (case aS => exact HB.out.size)
       (case aL => have := HRL.out; omega)
       intro v_ w16 ho hb hg hat
       clear hat
       have m0_ := Aside0.mk (blk_grown BK111.out hg (Kd.R_ne UU.out BK111.out (by decide)))
       have m1_ := Aside0.mk (blk_grown BK4.out hg (Kd.R_ne UU.out BK4.out (by decide)))
       have m2_ := Aside0.mk (blk_grown BK5.out hg (Kd.R_ne UU.out BK5.out (by decide)))
       have m3_ := Aside0.mk (Kd.S_over' Hv21.out (Kd.R_typed UU.out) (by decide) hg)
       have m4_ := Aside0.mk (Kd.S_over' Hv23.out (Kd.R_typed UU.out) (by decide) hg)
       have m5_ := Aside0.mk (Kd.R_over' HLL1.out (Kd.R_typed UU.out) (by decide) hg)
       have m6_ := Aside0.mk (Kd.H_grown (Kd.H_widen HH.out) hg (fun k_ e_ => .inl (UU.out.1 k_ e_)))
       have m7_ := Aside0.mk (hb)
       have m8_ := Aside0.mk (ho)
       clear BK111 BK4 BK5 Hv21 Hv23 HLL1 HH HB UU
       have BK111 := m0_
       clear m0_
       have BK4 := m1_
       clear m1_
       have BK5 := m2_
       clear m2_
       have Hv21 := m3_
       clear m3_
       have Hv23 := m4_
       clear m4_
       have HLL1 := m5_
       clear m5_
       have HH := m6_
       clear m6_
       have HB := m7_
       clear m7_
       have UU := m8_
       clear m8_
       rw [← HST.out] at UU
       obtain ⟨A2, c2, e2⟩ := Kd.R_slice UU.out
       subst e2
       obtain ⟨_, _, hraw, _, _, hcc_, _⟩ := Kd.H_raw HH.out pk qk
       obtain ⟨_, hfr_⟩ := Kd.H_at HH.out pk qk
       have hx4 := hcc_ 0 _ rfl
       have hf4 := hfr_ 0
       rw [show ((Kd.slice 38 k38)).sz = 1 from rfl, Nat.mul_one, Nat.add_zero, Int.toNat_natCast] at hx4 hf4
       have HRAW := Aside0.mk hraw
       clear hcc_ hfr_ hraw ho hb hg
       refine hK.out _ _ ⟨(blk_cell BK5.out 4).trans rfl, hx4⟩ (fun hHeld => ?_)
       clear hK K
       refine norm_ (a' := ?_) ?_ ?_
       rotate_left
       ·show Act.put _ (some 72) _ = _
        simp only [Act.put, List.setIfInBounds_toArray, List.set_cons_zero, List.set_cons_succ, i64_w, i32_w]
        rfl
       refine pure_ (i := 12) (N := some 73) (v := ?_) (a' := ?_) #[true, true, true, true, true, true, true, true, true, true, true, true, true, false] rfl rfl (by kernel_rfl) (fun _ _ _ h => h) (Or.inl ⟨by rfl, ?_⟩) ?_ ?_
       rotate_left
       ·intro w'
        go_simp
        with_reducible rfl
       rotate_left
       ·simp only [Act.put, List.setIfInBounds_toArray, List.set_cons_zero, List.set_cons_succ, i64_w, i32_w]
        rfl
       have HP := Kd.S_seg0 HH.out pk qk (seg := [.slice A2 RW2.length c2]) (j := 0) (show 1 ≤ 1 from by decide) (x' := RW2) (Kd.M_row UU.out) (fun _ hk => hk)
       rw [show ((Kd.slice 38 k38)).sz = 1 from rfl, Nat.mul_one, Nat.add_zero, Int.toNat_natCast, List.set_set] at HP
       have HG2 : w16.grownBy (w16.setCell ⟨go, k, none⟩ (.slice A2 RW2.length c2)) (some go) := HP.2
       have HO := Aside0.mk (show Kd.S (Kd.slice 38 k38) 34 (w16.setCell ⟨go, k, none⟩ (.slice A2 RW2.length c2)) w.heap.size (fun _ => True) (.slice (some ⟨go, 0, none⟩) n0 co) ((rowsAt l0_2 n0 k).set k RW2) from HP.1)
       refine last_ (i := 13) (N := none) #[true, true, true, true, true, true, true, true, true, true, true, true, true, true] rfl rfl (by kernel_rfl) (by decide) (fun K hK => ?_)
       refine skip_ (w1 := w16.setCell ⟨go, k, none⟩ (.slice A2 RW2.length c2)) (by rfl) rfl ?_ ?_
       ·go_simp
       refine hK.out _ _ ?_
       clear hK K
       have m0_ := Aside0.mk (blk_grown BK111.out HG2 (Kd.R_ne HRAW.out BK111.out (by decide)))
       have m1_ := Aside0.mk (blk_grown BK4.out HG2 (Kd.R_ne HRAW.out BK4.out (by decide)))
       have m2_ := Aside0.mk (blk_grown BK5.out HG2 (Kd.R_ne HRAW.out BK5.out (by decide)))
       have m3_ := Aside0.mk (Kd.S_over' Hv21.out (Kd.R_typed HRAW.out) (by decide) HG2)
       have m4_ := Aside0.mk (Kd.S_over' Hv23.out (Kd.R_typed HRAW.out) (by decide) HG2)
       have m5_ := Aside0.mk (Kd.R_over' HLL1.out (Kd.R_typed HRAW.out) (by decide) HG2)
       have m6_ := Aside0.mk ((below_set HB.out GBO.out : Below w.heap.size w (w16.setCell ⟨go, k, none⟩ (.slice A2 RW2.length c2))))
       clear BK111 BK4 BK5 Hv21 Hv23 HLL1 HB
       have BK111 := m0_
       clear m0_
       have BK4 := m1_
       clear m1_
       have BK5 := m2_
       clear m2_
       have Hv21 := m3_
       clear m3_
       have Hv23 := m4_
       clear m4_
       have HLL1 := m5_
       clear m5_
       have HB := m6_
       clear m6_
       clear HP HG2 HRAW UU HH hHeld hx4 hf4
       refine done_ (by kernel_rfl) ?_
       generalize w16.setCell ⟨go, k, none⟩ (.slice A2 RW2.length c2) = w17 at HO BK111 BK4 BK5 Hv21 Hv23 HLL1 HB ⊢
       rw [HRW2.out] at HO
       clear HRW2 HST HRW
       go_wp2_with fail
       go_roundw
       case rel => exact ⟨j + 1, by omega, by first | rfl | go_num, HO, BK111, BK4, BK5, Hv21, Hv23, HLL1, HB⟩
       case measure => simp [intOf] <;> omega
      ·have ej : j = LL1.length := by omega
       subst ej
       rw [List.take_length] at HO
       have cj : decide ((LL1.length : Int) < (LL1.length : Int)) = false := decide_eq_false (by omega)
       obtain ⟨RW, hRW⟩ : ∃ r_, r_ = ((([] : List S38) ++ LL0.map (fun i => (⟨i, false⟩ : S38))) ++ LL1.map (fun i => (⟨i, true⟩ : S38))) := ⟨_, rfl⟩
       have HRU : Aside0 (RW = stepsU l0_2 n0 (k : Int)) := ⟨by rw [hRW, HELL0.out, HELL1.out, HL0.out, HL1.out]; rfl⟩
       have HRL : Aside0 (RW.length ≤ 1000000) := ⟨by rw [hRW]; simp; have := HLE0.out; have := HLE1.out; omega⟩
       rw [← hRW] at HO
       clear hRW
       obtain ⟨oki, c_, _, hM_, hcc_, _, _, hH_⟩ := Kd.S_elem HO.out [] (k : Int) pk qk
       obtain ⟨vr, rfl, hR_⟩ := hM_
       rw [show ((rowsAt l0_2 n0 k).set k RW).getD (k : Int).toNat [] = RW from rd_set (rowsAt l0_2 n0 k) k RW (by rw [rowsAt_len]; exact hlt)] at hR_
       obtain ⟨Ar, cr, er⟩ := Kd.R_slice hR_
       subst er
       have hx4 := hcc_ 0 _ rfl
       rw [show ((Kd.slice 38 k38)).sz = 1 from rfl, Nat.mul_one, Nat.add_zero, Int.toNat_natCast] at hx4
       have UU := Aside0.mk hR_
       have HH := Aside0.mk hH_
       clear hcc_ hR_ hH_
       have hx5 : wr.cell? ⟨gb5, 4, none⟩ = some (.slice (some ⟨go, 0, none⟩) n0 co) := (blk_cell BK5.out 4).trans rfl
       have HEN : Aside0 (ends l0_2 n0) := ⟨fun i hi => ⟨HE0.out i hi, HE1.out i hi⟩⟩
       go_wp2_with (first | (go_at_call 143; refine (sort_row HH.out UU.out HRU.out hlt HEN.out (by omega) HRL.out).mono ?_; rintro e_ w20 ⟨rfl, vv, hg, hty, hS⟩; rw [List.set_set, rowsAt_set l0_2 n0 k hlt] at hS; have m0_ := Aside0.mk (blk_grown BK111.out hg (fun he => by obtain ⟨_, cells_, hc_⟩ := hty _ he.symm; have t_ := BK111.out.symm.trans hc_; simp at t_)); have m1_ := Aside0.mk (blk_grown BK4.out hg (fun he => by obtain ⟨_, cells_, hc_⟩ := hty _ he.symm; have t_ := BK4.out.symm.trans hc_; simp at t_)); have m2_ := Aside0.mk (blk_grown BK5.out hg (fun he => by obtain ⟨_, cells_, hc_⟩ := hty _ he.symm; have t_ := BK5.out.symm.trans hc_; simp at t_)); have m3_ := Aside0.mk (Kd.S_over' (v := vv) Hv21.out (fun k_ hk_ => (hty k_ hk_).2) (by decide) hg); have m4_ := Aside0.mk (Kd.S_over' (v := vv) Hv23.out (fun k_ hk_ => (hty k_ hk_).2) (by decide) hg); have m5_ := Aside0.mk (HB.out.grown hg HB.out.size (fun k_ hk_ => (hty k_ hk_).1)); have m6_ := Aside0.mk hS; clear hg hty hS HO BK111 BK4 BK5 Hv21 Hv23 HLL1 HB UU HH hx4 hx5; have HO := m6_; have BK111 := m0_; have BK4 := m1_; have BK5 := m2_; have Hv21 := m3_; have Hv23 := m4_; have HB := m5_; clear m0_ m1_ m2_ m3_ m4_ m5_ m6_) | fail)
       go_roundw
       case rel => exact ⟨k + 1, by omega, by first | rfl | go_num, HO, BK111, BK4, BK5, Hv21, Hv23, HB⟩
       case measure => simp [intOf] <;> omega
  ·have ek : n0 = k := by omega
   subst ek
   have hx0 : wr.cell? ⟨gb5, 0, none⟩ = some (.int .i64 (n0 : Int)) := (blk_cell BK5.out 0).trans rfl
   have hx1 : wr.cell? ⟨gb5, 1, none⟩ = some (.bool a0_1) := (blk_cell BK5.out 1).trans rfl
   have hx2 : wr.cell? ⟨gb5, 2, none⟩ = some (.slice A0_2 l0_2.length c0_2) := (blk_cell BK5.out 2).trans rfl
   have hx3 : wr.cell? ⟨gb5, 3, none⟩ = some (.slice A1 n1 c1) := (blk_cell BK5.out 3).trans rfl
   have hx4 : wr.cell? ⟨gb5, 4, none⟩ = some (.slice Ao n0 co) := (blk_cell BK5.out 4).trans rfl
   have hy0 : wr.cell? ⟨gb4, 0, none⟩ = some (.int .i64 0) := (blk_cell BK4.out 0).trans rfl
   have hf0 := blk_frozen BK4.out 0
   have hy1 : wr.cell? ⟨gb4, 1, none⟩ = some (.bool false) := (blk_cell BK4.out 1).trans rfl
   have hf1 := blk_frozen BK4.out 1
   have hy2 : wr.cell? ⟨gb4, 2, none⟩ = some (.slice none 0 0) := (blk_cell BK4.out 2).trans rfl
   have hf2 := blk_frozen BK4.out 2
   have hy3 : wr.cell? ⟨gb4, 3, none⟩ = some (.slice none 0 0) := (blk_cell BK4.out 3).trans rfl
   have hf3 := blk_frozen BK4.out 3
   have hy4 : wr.cell? ⟨gb4, 4, none⟩ = some (.slice none 0 0) := (blk_cell BK4.out 4).trans rfl
   have hf4 := blk_frozen BK4.out 4
   have GE4' := GE4.out
   go_wp2
   refine bodyPost_ret (results_cell_row rfl _ _ gb4 118 #[.int .i64 (n0 : Int), .bool a0_1, .slice A0_2 l0_2.length c0_2, .slice A1 n1 c1, .slice Ao n0 co] (0, 0) _ rfl (by refine blk_put (cs := #[.int .i64 (n0 : Int), .bool a0_1, .slice A0_2 l0_2.length c0_2, .slice A1 n1 c1, .slice none 0 0]) ?_ 4 _ rfl; refine blk_put (cs := #[.int .i64 (n0 : Int), .bool a0_1, .slice A0_2 l0_2.length c0_2, .slice none 0 0, .slice none 0 0]) ?_ 3 _ rfl; refine blk_put (cs := #[.int .i64 (n0 : Int), .bool a0_1, .slice none 0 0, .slice none 0 0, .slice none 0 0]) ?_ 2 _ rfl; refine blk_put (cs := #[.int .i64 (n0 : Int), .bool false, .slice none 0 0, .slice none 0 0, .slice none 0 0]) ?_ 1 _ rfl; refine blk_put (cs := #[.int .i64 0, .bool false, .slice none 0 0, .slice none 0 0, .slice none 0 0]) ?_ 0 _ rfl; exact BK4.out) Try.underlying118 rfl (by kernel_rfl)) rfl ?_
   exact ⟨_, rfl, Kd.S_mono (Kd.S_far (p := ⟨gb4, 4, none⟩) (Kd.S_far (p := ⟨gb4, 3, none⟩) (Kd.S_far (p := ⟨gb4, 2, none⟩) (Kd.S_far (p := ⟨gb4, 1, none⟩) (Kd.S_far (p := ⟨gb4, 0, none⟩) (Kd.S_types HO.out BK4.out (by decide)) (fun _ hk => hk.2) (.int .i64 (n0 : Int))) (fun _ hk => hk.2) (.bool a0_1)) (fun _ hk => hk.2) (.slice A0_2 l0_2.length c0_2)) (fun _ hk => hk.2) (.slice A1 n1 c1)) (fun _ hk => hk.2) (.slice Ao n0 co)) (fun _ _ => trivial), by repeat (first | exact HB.out | refine below_set ?_ GE4.out)⟩
end Go.Proofs.Ytkcpanpdipmmmaa.H
namespace Go.Proofs.Ytkcpanpdipmmmaa.Q
open Go.RowKit Go.Proofs.YtkcpanpdipmmmaaW.PrintWords Go.Proofs.YtkcpanpdipmmmaaW.PrintLast Go.Proofs.YtkcpanpdipmmmaaW.PrintMore Go.Proofs.Ytkcpanpdipmmmaa.P
open Go.Proofs.Ytkcpanpdipmmmaa.H (endsErr)
theorem ends_ev (n : Int) (b : Bool) (l : List S74) (s t : Int) : Ev (fun k => static_Ends.f k n b l s t) (endsErr n l s t) := by
 unfold static_Ends.f endsErr
 refine Ev.bind (check_ev n b l) ?_
 refine Ev.ite (fun h => ?_) (fun h => ?_)
 ·rw [if_pos h]
  refine Ev.ite (fun g => ?_) (fun g => ?_)
  ·exact Ev.done (by unfold mn at g; rw [if_neg (by omega)])
  ·unfold mn at g
   refine Ev.ite (fun g2 => ?_) (fun g2 => ?_)
   ·exact Ev.done (by unfold mx at g2; rw [if_neg (by omega)])
   ·unfold mx at g2
    refine Ev.ite (fun g3 => ?_) (fun g3 => ?_)
    ·exact Ev.done (by rw [if_neg (by omega)])
    ·exact Ev.done (by rw [if_pos (by omega)])
 ·rw [if_neg h]
  exact Ev.now _
end Go.Proofs.Ytkcpanpdipmmmaa.Q
namespace Go.Proofs.Ytkcpanpdipmmmaa.H
open Go.RowKit Go.Proofs.YtkcpanpdipmmmaaW.PrintWords Go.Proofs.YtkcpanpdipmmmaaW.PrintLast Go.Proofs.YtkcpanpdipmmmaaW.PrintMore Go.Proofs.Ytkcpanpdipmmmaa.P Go.Proofs.Ytkcpanpdipmmmaa.Q
theorem right_of {n : Int} {l : List S74} {F : List Int} (h : askErr n l F = 0) : ∃ n0 : Nat, n = n0 ∧ Right l F n0 := by
 obtain ⟨hn, hf⟩ := askErr_ok h
 have h1 := hn.lo
 have h2 := hn.hi
 obtain ⟨n0, rfl⟩ : ∃ n0 : Nat, n = n0 := ⟨n.toNat, by omega⟩
 refine ⟨n0, rfl, ⟨by omega, by omega, hn.len, hf.len, fun i hi => ?_, fun i hi => ?_⟩⟩
 ·have ha := hn.at_ (i := (i : Int)) (by omega) (by omega)
  exact ⟨⟨ha.f0, ha.h0⟩, ⟨ha.f1, ha.h1⟩⟩
 ·have ha := hn.at_ (i := (i : Int)) (by omega) (by omega)
  have hb := hf.at_ i (by rw [hf.len]; exact hi)
  rw [rd_nat] at hb
  exact ⟨ha.f3, ha.h3, hb.1, hb.2, ha.h2⟩
end Go.Proofs.Ytkcpanpdipmmmaa.H
namespace Go.Proofs.Ytkcpanpdipmmmaa.Q
open Go.RowKit Go.Proofs.YtkcpanpdipmmmaaW.PrintWords Go.Proofs.YtkcpanpdipmmmaaW.PrintLast Go.Proofs.YtkcpanpdipmmmaaW.PrintMore Go.Proofs.Ytkcpanpdipmmmaa.P
open Go.Proofs.Ytkcpanpdipmmmaa.H (endsErr Right right_of)
theorem ends_zero {n : Int} {l : List S74} {s t : Int} (h : endsErr n l s t = 0) : ∃ n0 s0 t0 : Nat, n = n0 ∧ s = s0 ∧ t = t0 ∧ s0 < n0 ∧ t0 < n0 ∧ s0 ≠ t0 ∧ NetOk n0 l ∧ Right l (List.replicate l.length 0) n0 := by
 have hb : NetOk n l ∧ 0 ≤ s ∧ s < n ∧ 0 ≤ t ∧ t < n ∧ s ≠ t := by
  unfold endsErr at h
  by_cases hn : netErr n l = 0
  ·rw [if_pos hn] at h
   split at h
   ·rename_i he
    exact ⟨netErr_ok hn, he⟩
   ·cases h
  ·rw [if_neg hn] at h; exact absurd h hn
 obtain ⟨hn, h1, h2, h3, h4, h5⟩ := hb
 have hz : FlowOk l (List.replicate l.length 0) := by
  refine ⟨by simp, fun i hi => ?_⟩
  rw [List.length_replicate] at hi
  have ha := (hn.at_ (i := (i : Int)) (by omega) (by omega)).f2
  rw [rd_nat, List.getD_eq_getElem?_getD, List.getElem?_replicate, if_pos hi]
  exact ⟨Int.le_refl _, ha⟩
 obtain ⟨n0, rfl, hr⟩ := right_of (ask_of hn hz)
 exact ⟨n0, s.toNat, t.toNat, rfl, by omega, by omega, by omega, by omega, by omega, hn, hr⟩
end Go.Proofs.Ytkcpanpdipmmmaa.Q
namespace Go.Proofs.Ytkcpanpdipmmmaa.H
open Go.RowKit Go.Proofs.YtkcpanpdipmmmaaW.PrintWords Go.Proofs.YtkcpanpdipmmmaaW.PrintLast Go.Proofs.YtkcpanpdipmmmaaW.PrintMore Go.Proofs.Ytkcpanpdipmmmaa.P Go.Proofs.Ytkcpanpdipmmmaa.Q
theorem max_same {l : List S74} {F G : List Int} {n s t : Nat} (h : MaxF l F n s t) (g : MaxF l G n s t) (hs : s < n) (hst : s ≠ t) : bal l F s = bal l G s := by
 have h1 := max_top h hs hst g.flow
 have h2 := max_top g hs hst h.flow
 omega
theorem zeros_of {l : List S74} {F : List Int} {n s t : Nat} (h : Right l F n) : IsFlow l (List.replicate l.length 0) n s t ∧ bal l (List.replicate l.length 0) s = 0 :=
 zeros_flow h.pos h.fifty h.arcs h.ends (fun i hi => by have := h.nums i hi; exact ⟨this.1, this.2.1, by omega, by omega⟩)
theorem fill_max {l : List S74} {F : List Int} {n s t : Nat} (hr : Right l F n) (hs : s < n) (ht : t < n) (hst : s ≠ t) : MaxF l (fillF l n s t) n s t := by
 obtain ⟨h1, h2⟩ := zeros_of (s := s) (t := t) hr
 exact refill_max hs ht hst 300000000 h1 (by omega)
theorem reach_in {l : List S74} {F : List Int} {n s : Nat} (hr : Right l F n) (hs : s < n) (R : Int → Bool) (h0 : R s = true)
  (hR : ∀ e : S38, StepOf l e → 0 < stRoom l F e → R (stFrom l e) = true → R (stTo l e) = true) {v : Nat} (hv : v ∈ nodes (bfP l F n s)) : R v = true := by
 obtain ⟨x, hx, rfl⟩ := List.mem_map.1 hv
 have hu := (bfP_upto hr hs).fds
 have hl := (backL_spec hu esP_fr _ hx (Nat.le_refl _)).2
 have key : ∀ (L : List S38) (a b : Nat), Leads (toP l) (esP l F) a L b → R a = true → R b = true := by
  intro L
  induction L with
  | nil => intro a b h ha; have h : a = b := h; rw [← h]; exact ha
  | cons e L ih =>
   intro a b h ha
   obtain ⟨h1, h2⟩ := h
   obtain ⟨g1, g2⟩ := mem_esP.1 h1
   refine ih _ _ h2 ?_
   have hso := stL_of g1
   have hfr := stL_from g1
   have hto := stTo_in hr hso
   have := hR e hso g2 (by rw [hfr]; exact ha)
   unfold toP
   rw [Int.toNat_of_nonneg hto.1]
   exact this
 exact key _ _ _ hl h0
theorem tight_of (R : Int → Bool) : ∀ (l : List S74) (f : List Int), flowB l f = true → outR R l f = capR R l → Tightly R l f
 | [], [], _, _ => fun i hi => by simp at hi
 | [], _ :: _, h, _ => by simp [flowB] at h
 | _ :: _, [], h, _ => by simp [flowB] at h
 | a :: l, x :: f, h, he => by
  unfold flowB at h
  split at h
  ·cases h
  ·split at h
   ·cases h
   ·have h1 := outR_le R l f h
    rw [outR_cons, capR_cons] at he
    have ih := fun g => tight_of R l f h g
    intro i hi
    cases i with
    | zero =>
     have e : rd_T74 (a :: l) ((0 : Nat) : Int) = a := rfl
     rw [e]
     simp only [List.getD_cons_zero]
     cases h2 : R a.f0 <;> cases h3 : R a.f1 <;> rw [h2, h3] at he <;> simp at he ⊢ <;> omega
    | succ i =>
     have e : rd_T74 (a :: l) ((i + 1 : Nat) : Int) = rd_T74 l (i : Int) := by rw [rdArc_nat, rdArc_nat]; rfl
     rw [e, List.getD_cons_succ]
     refine ih ?_ i (by simpa using hi)
     cases h2 : R a.f0 <;> cases h3 : R a.f1 <;> rw [h2, h3] at he <;> simp at he <;> omega
theorem tight_closed {l : List S74} {F : List Int} {n : Nat} {s t : Int} (h : IsFlow l F n s t) (R : Int → Bool) (hs : R s = true) (ht : R t = false) (h0 : 0 ≤ s) (h1 : s < n) (he : bal l F s = capR R l) :
  ∀ e : S38, StepOf l e → 0 < stRoom l F e → R (stFrom l e) = true → R (stTo l e) = true := by
 rw [← sumR_ends n hs ht h0 h1 h.keeps, sum_bal R n l F (ends_arcs h.right.ends) h.right.len] at he
 have hT := tight_of R l F h.right.flowB he
 intro e hso hrm hf
 obtain ⟨i, hi, e2⟩ := hso
 have hi2 := hT i hi
 unfold stRoom at hrm
 unfold stFrom at hf
 unfold stTo
 rw [e2] at hrm hf ⊢
 rw [Int.toNat_natCast] at hrm
 unfold eFrom eTo at hf ⊢
 cases hb : e.f1 <;> rw [hb] at hrm hf <;> simp only [Bool.false_eq_true, if_false, if_true] at hrm hf ⊢
 ·cases hc : R (rd_T74 l i).f1
  ·have := hi2.1 hf hc; omega
  ·rfl
 ·cases hc : R (rd_T74 l i).f0
  ·have := hi2.2 hc hf; omega
  ·rfl
theorem least_side {l : List S74} {F : List Int} {n s : Nat} {t : Int} (h : IsFlow l F n s t) (hs : s < n) (R : Int → Bool) (h0 : R s = true) (ht : R t = false) (he : bal l F s = capR R l) {v : Nat} (hv : v ∈ nodes (bfP l F n s)) : R v = true :=
 reach_in h.right hs R h0 (tight_closed h R h0 ht (by omega) (by omega) he) hv
theorem sideP_iff {l : List S74} {F : List Int} {n s v : Nat} : sideP l F n s v = true ↔ v ∈ nodes (bfP l F n s) := by
 unfold sideP
 rw [decide_eq_true_eq, Int.toNat_natCast]
 exact ⟨fun h => h.2, fun h => ⟨by omega, h⟩⟩
theorem side_same {l : List S74} {F G : List Int} {n s t : Nat} (h : MaxF l F n s t) (g : MaxF l G n s t) (hs : s < n) (hst : s ≠ t) (v : Nat) : v ∈ nodes (bfP l F n s) ↔ v ∈ nodes (bfP l G n s) := by
 have e := max_same h g hs hst
 obtain ⟨h1, h2, h3⟩ := max_value h hs hst
 obtain ⟨g1, g2, g3⟩ := max_value g hs hst
 constructor
 ·intro hv; exact sideP_iff.1 (least_side h.flow hs (sideP l G n s) g2 g3 (by omega) hv)
 ·intro hv; exact sideP_iff.1 (least_side g.flow hs (sideP l F n s) h2 h3 (by omega) hv)
theorem capR_two (R Q : Int → Bool) : ∀ l : List S74, (∀ a, a ∈ l → 0 ≤ a.f2) → capR (fun v => R v && Q v) l + capR (fun v => R v || Q v) l ≤ capR R l + capR Q l
 | [], _ => by simp [capR]
 | a :: l, h => by
  have h1 := h a List.mem_cons_self
  have h2 := capR_two R Q l fun b hb => h b (List.mem_cons_of_mem _ hb)
  rw [capR_cons, capR_cons, capR_cons, capR_cons]
  cases R a.f0 <;> cases R a.f1 <;> cases Q a.f0 <;> cases Q a.f1 <;> simp <;> omega
end Go.Proofs.Ytkcpanpdipmmmaa.H
namespace Go.Proofs.Ytkcpanpdipmmmaa.H
open Go.RowKit Go.Proofs.YtkcpanpdipmmmaaW.PrintWords Go.Proofs.YtkcpanpdipmmmaaW.PrintLast Go.Proofs.YtkcpanpdipmmmaaW.PrintMore Go.Proofs.Ytkcpanpdipmmmaa.P
open Go.Proofs.Ytkcpanpdipmmmaa.Q (bal ends_zero)
theorem heap_k74 : Kd.Heap k74 := Kd.heap_iso _ (Kd.heap_pair (Kd.heap_int _) (Kd.heap_pair (Kd.heap_int _) (Kd.heap_pair (Kd.heap_int _) (Kd.heap_int _))))
theorem made_ints (n : Nat) (hn : n ≤ 500) : ∀ W : World, (Instr.makeSlice 25 (.int .i64 (n : Int)) (.int .i64 (n : Int))).run Try.prog W = .ok (.slice (some ⟨W.heap.size, 0, none⟩) n n) (W.alloc (.cells (nums .i64 (List.replicate n 0)).toArray 3)) := by
 intro W
 rw [print_make 25 3 .i64 8 Try.underlying25 (by kernel_rfl) (by omega) n (by omega) W]
 have hl : (madeCells #[Value.int .i64 0] n) = (nums .i64 (List.replicate n 0)).toArray := by
  apply Array.ext'
  apply List.ext_getElem
  ·simp [nums, madeCells]
  ·intro i h1 h2
   simp [nums, madeCells, Nat.mod_one]
 rw [hl]
section
variable {n0 : Nat} {a0_1 : Bool} {A2 : Option Addr} {c2 : Nat} {l : List S74} {gF cF : Nat} {A4 : Option Addr} {c4 gx gn B B' : Nat} {vd : Value} {F : List Int} {nx : List Nat} {w w5 w7 wf : World}
theorem Fo.raise (h : Fo n0 a0_1 A2 c2 l gF cF A4 c4 gx gn B vd F nx w) (h1 : B ≤ B') (h2 : B' ≤ w.heap.size) : Fo n0 a0_1 A2 c2 l gF cF A4 c4 gx gn B' vd F nx w := by
 have hl := h.low
 exact ⟨h.x, h.nx, h.fl, Kd.F_mono h.arcs (fun k hk => ⟨by omega, hk.2⟩), Kd.F_mono h.rows (fun k hk => ⟨by omega, hk.2⟩), h2, ⟨by omega, by omega, by omega⟩, h.apart, h.ca, h.cf⟩
theorem Fo.made {base : Nat} {ok : Nat → Prop} (hb : Below w5.heap.size w5 wf) (hF : IsI w5 gF F) (ha : Kd.F k74 w5 (fun k => k < w5.heap.size ∧ k ≠ gF) A2 l.length l) (hS : Kd.S (Kd.slice 38 k38) 34 w7 base ok (.slice A4 n0 c4) (rowsAt l n0 n0)) (hb7 : Below w7.heap.size w7 wf) (hbase : w5.heap.size ≤ base)
  (hx : wf.heap[gx]? = some (.cells #[.int .i64 (n0 : Int), .bool a0_1, .slice A2 l.length c2, .slice (some ⟨gF, 0, none⟩) F.length cF, .slice A4 n0 c4, .slice none 0 0, .slice (some ⟨gn, 0, none⟩) n0 n0] 184 (0, 0)))
  (hn : IsI wf gn (List.replicate n0 0)) (h1 : w5.heap.size ≤ gn) (h2 : w7.heap.size ≤ gx) (h3 : gn ≠ gx) (h4 : gn < base ∨ w7.heap.size ≤ gn) (h57 : w5.heap.size ≤ w7.heap.size) (hca : l.length ≤ c2) (hcf : F.length ≤ cF) : Fo n0 a0_1 A2 c2 l gF cF A4 c4 gx gn wf.heap.size (.slice none 0 0) F (List.replicate n0 0) wf := by
 have hl5 := hF.lt
 have hn2 := hn.lt
 have hx2 := blk_lt hx
 have hr := Kd.F_below (Kd.S_F (Kd.S_bound hS)) hb7
 refine ⟨hx, by unfold nI; rw [List.map_replicate]; exact hn, hF.below hb, Kd.F_mono (Kd.F_below ha hb) (fun k hk => ?_), Kd.F_mono hr (fun k hk => ?_), Nat.le_refl _, ⟨hx2, hn2, ?_⟩, ⟨Ne.symm h3, by omega, by omega⟩, hca, hcf⟩
 ·have := hb.size; exact ⟨by omega, hk.2, by omega, by omega⟩
 ·have h5 := hk.2.1
  have h6 := hk.2.2.1
  exact ⟨by omega, by omega, by omega, by omega⟩
 ·have := hb.size; omega
end
theorem refill_stop {l : List S74} {n s t k : Nat} {F : List Int} (h : (dOf n (bfP l F n s)).getD t 0 < 0) : refillF l n s t (k + 1) F = F := by rw [refillF, if_pos h]
theorem refill_go {l : List S74} {n s t k : Nat} {F : List Int} (h : ¬ (dOf n (bfP l F n s)).getD t 0 < 0) : refillF l n s t (k + 1) F = refillF l n s t k (phaseF l (dOf n (bfP l F n s)) s t 300000000 F (List.replicate n 0)) := by rw [refillF, if_neg h]
def Rs (n0 : Nat) (a0_1 : Bool) (A2 : Option Addr) (c2 : Nat) (l : List S74) (gF cF : Nat) (A4 : Option Addr) (c4 gx gn : Nat) (s t : Nat) (R : List Int) (w w' : World) (k : Nat) : Prop :=
 ∃ (F : List Int) (nx : List Nat) (vd : Value) (B : Nat), IsFlow l F n0 s t ∧ 0 ≤ bal l F s ∧ nx.length = n0 ∧ 209715200 < (k : Int) + bal l F s ∧ refillF l n0 s t k F = R ∧ Fo n0 a0_1 A2 c2 l gF cF A4 c4 gx gn B vd F nx w' ∧ Ks (fun b => b = gx ∨ b = gF ∨ b = gn) w w'
set_option maxHeartbeats 20000000 in
set_option maxRecDepth 100000 in
theorem refill_calls (n0 : Nat) (a0_1 : Bool) (A2 : Option Addr) (c2 : Nat) (l : List S74) (gF cF : Nat) (F : List Int) (s t : Nat) (w : World)
  (hf : IsFlow l F n0 s t) (hb0 : 0 ≤ bal l F s) (hs : s < n0) (ht : t < n0) (hst : s ≠ t) (hF : IsI w gF F) (hcF : F.length ≤ cF) (ha : Kd.F k74 w (fun k => k < w.heap.size ∧ k ≠ gF) A2 l.length l) (hca : l.length ≤ c2) :
  Calls Try.prog 155 #[.agg #[.int .i64 (n0 : Int), .bool a0_1, .slice A2 l.length c2], .slice (some ⟨gF, 0, none⟩) F.length cF, .int .i64 (s : Int), .int .i64 (t : Int)] w fun e w' => e = .returned (.tuple #[]) ∧ IsI w' gF (refillF l n0 s t 300000000 F) ∧ Ks (fun b => b = gF) w w' := by
 have hu24 := Try.underlying24
 have hu184 := Try.underlying184
 have hn50 := hf.right.fifty
 have hmk := made_ints n0 (by omega)
 have HFL := Aside0.mk hf
 have HB0 := Aside0.mk hb0
 have HIF := Aside0.mk hF
 have HCF := Aside0.mk hcF
 have HAF := Aside0.mk ha
 have HCA := Aside0.mk hca
 have hgF := hF.lt
 obtain ⟨R, hR⟩ : ∃ R, R = refillF l n0 s t 300000000 F := ⟨_, rfl⟩
 rw [← hR]
 have HRR := Aside0.mk hR
 clear hf hb0 hF hcF ha hca hR
 go_enter Try.func155, Try.ntmps155
 go_upto_region 1 with (first | ((with_reducible refine gate_dst (N := 4) rfl ?_); refine box_event ?hg (N := 4) ?hd (cs := #[.int .i64 (n0 : Int), .bool a0_1, .slice A2 l.length c2]) (t := 24) ?hr ?_; (case hd => rfl); (case hg => rfl); (case hr => first | (go_simp; done) | (go_simp; rfl)); intro g4 hg4 w5 hbox hb; have B4 := Aside0.mk hbox; have HB := Aside0.mk hb; have HG4 := Aside0.mk hg4; clear hg4 hbox hb) | fail)
 have h0 : w5.cell? ⟨g4, 0, none⟩ = some (.int .i64 (n0 : Int)) := (blk_cell B4.out 0).trans rfl
 have h1 : w5.cell? ⟨g4, 1, none⟩ = some (.bool a0_1) := (blk_cell B4.out 1).trans rfl
 have h2 : w5.cell? ⟨g4, 2, none⟩ = some (.slice A2 l.length c2) := (blk_cell B4.out 2).trans rfl
 have hsz := HB.out.size
 have HIF5 := Aside0.mk (HIF.out.below HB.out)
 have HAF5 : Aside0 (Kd.F k74 w5 (fun k => k < w5.heap.size ∧ k ≠ gF) A2 l.length l) := ⟨Kd.F_mono (Kd.F_below HAF.out HB.out) (fun k hk => ⟨by omega, hk.2⟩)⟩
 have HC5 := Aside0.mk (Kd.F_now HAF5.out)
 simp only [Act.put, List.setIfInBounds_toArray, List.set_cons_zero, List.set_cons_succ]
 go_cut [8] (fun v8 wx => ∃ (gx gn : Nat) (A4 : Option Addr) (c4 : Nat), v8 = .pointer (some ⟨gx, 0, none⟩) ∧ Aside0 (Fo n0 a0_1 A2 c2 l gF cF A4 c4 gx gn wx.heap.size (.slice none 0 0) F (List.replicate n0 0) wx) ∧ Aside0 (Below w5.heap.size w5 wx) ∧ Aside0 (w5.heap.size ≤ gx ∧ w5.heap.size ≤ gn))
 case first =>
  go_region_held3 (fun w' => w'.cell? ⟨g4, 0, none⟩ = some (.int .i64 (n0 : Int)) ∧ w'.cell? ⟨g4, 1, none⟩ = some (.bool a0_1) ∧ w'.cell? ⟨g4, 2, none⟩ = some (.slice A2 l.length c2))
   (first | ((try dsimp only); (refine ⟨?_, ?_, ?_⟩) <;> first | (exact pw_cell_below (below_drew (Below.refl _ _)) (by assumption)) | (exact pw_cell_below (below_alloc (Below.refl _ _) _) (by assumption)) | (exact pw_cell_below hbr (by assumption)) | (exact pw_cell_below (below_alloc (below_step (below_drew (Below.refl w5.heap.size w5)) hbr) _) (by assumption)) | (exact pw_cell_below (below_step (below_drew (below_alloc (Below.refl w5.heap.size w5) _)) hbr) (by assumption)) | (exact pw_cell_below (below_step (below_drew (Below.refl w5.heap.size w5)) hbr) (by assumption))) | go_keep)
   (first | (go_at_call 101; refine (at_calls n0 a0_1 A2 c2 l (some ⟨gF, 0, none⟩) cF F.length _ ?hC HCA.out (by omega) (by omega) (by have := HFL.out.right.arcs; omega) (fun k hk => (HFL.out.right.ends k hk).1) (fun k hk => (HFL.out.right.ends k hk).2)).mono ?_; (case hC => first | exact HC5.out | exact Kd.C_below HC5.out (below_drew (Below.refl _ _)) | exact Kd.C_below HC5.out (below_drew (below_alloc (Below.refl _ _) _))); rintro e_ w7 ⟨vr, rfl, hS, hbr⟩; obtain ⟨A4, c4, ev⟩ := Kd.S_slice hS; subst ev; rw [rowsAt_len] at hS ⊢))
  ·go_wp2_with fail
   go_meet
   have hbb : Below w5.heap.size w5 w7 := below_step (below_drew (Below.refl w5.heap.size w5)) hbr
   have hsz7 := hbb.size
   refine ⟨w7.heap.size + 1, w7.heap.size, A4, c4, rfl, ⟨Fo.made (below_alloc (below_alloc hbb _) _) HIF5.out HAF5.out hS (below_alloc (below_alloc (Below.refl _ _) _) _) (by simp) ?_ (IsI.below (w := w7.alloc (.cells (nums .i64 (List.replicate n0 0)).toArray 3)) (heap_alloc_new w7 _) (below_alloc (Below.refl _ _) _)) (by omega) (by omega) (by omega) (.inr (Nat.le_refl _)) (by omega) HCA.out HCF.out⟩, ⟨below_alloc (below_alloc hbb _) _⟩, ⟨by omega, by omega⟩⟩
   have h_ := heap_alloc_new (w7.alloc (.cells (nums .i64 (List.replicate n0 0)).toArray 3)) (.cells #[.int .i64 (n0 : Int), .bool a0_1, .slice A2 l.length c2, .slice (some ⟨gF, 0, none⟩) F.length cF, .slice A4 n0 c4, .slice none 0 0, .slice (some ⟨w7.heap.size, 0, none⟩) n0 n0] 184)
   rw [show (w7.alloc (.cells (nums .i64 (List.replicate n0 0)).toArray 3)).heap.size = w7.heap.size + 1 by simp] at h_
   exact h_
  ·go_wp2_with fail
   go_meet
   have hbb : Below w5.heap.size w5 w7 := below_step (below_drew (below_alloc (Below.refl w5.heap.size w5) _)) hbr
   have hsz7 := hbr.size
   rw [show (w5.alloc (.cells (nums .i64 (List.replicate n0 0)).toArray 3)).drew.heap.size = w5.heap.size + 1 by simp] at hsz7
   refine ⟨w7.heap.size, w5.heap.size, A4, c4, rfl, ⟨Fo.made (below_alloc hbb _) HIF5.out HAF5.out hS (below_alloc (Below.refl _ _) _) (by simp) (heap_alloc_new w7 _) (IsI.below (w := w7) (IsI.below (w := (w5.alloc (.cells (nums .i64 (List.replicate n0 0)).toArray 3)).drew) (IsI.below (w := w5.alloc (.cells (nums .i64 (List.replicate n0 0)).toArray 3)) (heap_alloc_new w5 _) (below_drew (Below.refl _ _))) hbr) (below_alloc (Below.refl _ _) _)) (by omega) (by omega) (by omega) (.inl (by simp)) (by omega) HCA.out HCF.out⟩, ⟨below_alloc hbb _⟩, ⟨by omega, by omega⟩⟩
 case rest =>
  obtain ⟨gx, gn, A4, c4, rfl, HFO, HBC, HGX⟩ := hcut
  have HBW : Aside0 (Below w.heap.size w wc) := ⟨below_step HB.out HBC.out⟩
  have HGW : Aside0 (w.heap.size ≤ gx ∧ w.heap.size ≤ gn) := ⟨by have := HGX.out; omega⟩
  clear h0 h1 h2 hmk HIF5 HAF5 HC5 HIF HAF HB HBC B4 HGX HG4 hsz
  go_wp2_with fail
  go_loopw [] (fun w' => ∃ k, Rs n0 a0_1 A2 c2 l gF cF A4 c4 gx gn s t R wc w' k) (fun w' => least (fun k => Rs n0 a0_1 A2 c2 l gF cF A4 c4 gx gn s t R wc w' k))
  case atStart => exact ⟨300000000, F, List.replicate n0 0, .slice none 0 0, _, HFL.out, HB0.out, by simp, by have := HB0.out; omega, HRR.out.symm, HFO.out, Ks.refl _ _⟩
  case round =>
   clear HFO
   have hmin := least_spec hrel
   obtain ⟨kk, hkk⟩ : ∃ k_, k_ = least (fun k => Rs n0 a0_1 A2 c2 l gF cF A4 c4 gx gn s t R wc wr k) := ⟨_, rfl⟩
   rw [← hkk] at hmin
   have HLE := Aside0.mk hkk
   clear hrel hkk
   obtain ⟨G, nx, vd, B, hgf, hg0, hnl, hgk, hgp, hF, hK⟩ := hmin
   have hgt := flow_top hgf hs hst
   obtain ⟨k, rfl⟩ : ∃ k, kk = k + 1 := ⟨kk - 1, by omega⟩
   have HGF := Aside0.mk hgf
   have HG0 := Aside0.mk hg0
   have HGK := Aside0.mk hgk
   have HK := Aside0.mk hK
   have HFO := Aside0.mk (hF.raise hF.size (Nat.le_refl _))
   clear hgf hg0 hgk hF hK hgt
   by_cases hy : (dOf n0 (bfP l G n0 s)).getD t 0 < 0
   ·have hq : G = R := by rw [← hgp, refill_stop hy]
    have HQ := Aside0.mk hq
    have HY := Aside0.mk hy
    clear hq hgp
    obtain ⟨b, hb⟩ : ∃ b_, b_ = (!decide ((dOf n0 (bfP l G n0 s)).getD t 0 < 0)) := ⟨_, rfl⟩
    have hbf : b = false := by rw [hb, decide_eq_true hy]; rfl
    have HBE := Aside0.mk hb
    clear hy hb
    go_wp2_with (first | (go_at_call 168; refine (phase_calls n0 a0_1 A2 c2 l gF cF A4 c4 gx gn vd G s t nx _ HGF.out HG0.out hs ht hst hnl HFO.out).mono ?_; rintro e_ w8 ⟨vd', nx', rfl, hnl', hfo, hks⟩; rw [if_pos HY.out] at hfo; rw [← HBE.out]) | fail)
    refine bodyPost_end (results_none rfl _ _ _) rfl ⟨rfl, ?_, ?_⟩
    ·rw [← HQ.out]; exact hfo.fl
    ·refine ((Ks.of_below HBW.out (fun b => b = gF)).trans (HK.out.trans hks (fun b hb _ => hb)) (fun b hb hlt => ?_))
     have := HGW.out
     rcases hb with h_ | h_ | h_
     ·omega
     ·exact h_
     ·omega
   ·have hq : refillF l n0 s t k (phaseF l (dOf n0 (bfP l G n0 s)) s t 300000000 G (List.replicate n0 0)) = R := by rw [← hgp, refill_go hy]
    have HQ := Aside0.mk hq
    have HY := Aside0.mk hy
    obtain ⟨m1, m2⟩ := phase_grows HGF.out hs ht hst (by omega) 299999999
    have HM1 := Aside0.mk m1
    have HM2 := Aside0.mk m2
    clear hq hgp m1 m2
    obtain ⟨b, hb⟩ : ∃ b_, b_ = (!decide ((dOf n0 (bfP l G n0 s)).getD t 0 < 0)) := ⟨_, rfl⟩
    have hbf : b = true := by rw [hb, decide_eq_false hy]; rfl
    have HBE := Aside0.mk hb
    clear hy hb
    go_wp2_with (first | (go_at_call 168; refine (phase_calls n0 a0_1 A2 c2 l gF cF A4 c4 gx gn vd G s t nx _ HGF.out HG0.out hs ht hst hnl HFO.out).mono ?_; rintro e_ w8 ⟨vd', nx', rfl, hnl', hfo, hks⟩; rw [if_neg HY.out] at hfo; rw [← HBE.out]; have HFN := Aside0.mk hfo; have HKN := Aside0.mk hks; clear hfo hks) | fail)
    have hRs : Rs n0 a0_1 A2 c2 l gF cF A4 c4 gx gn s t R wc w8 k := by
     obtain ⟨H, hH⟩ : ∃ H_, H_ = phaseF l (dOf n0 (bfP l G n0 s)) s t 300000000 G (List.replicate n0 0) := ⟨_, rfl⟩
     have q1 := HM1.out
     have q2 := HM2.out
     rw [show 299999999 + 1 = 300000000 from rfl, ← hH] at q1 q2
     have q3 := HG0.out
     have q4 := HGK.out
     have q5 := HQ.out
     have q6 := HFN.out
     rw [← hH] at q5 q6
     exact ⟨H, nx', vd', _, q1, by omega, hnl', by omega, q5, q6, HK.out.trans HKN.out (fun b hb _ => hb)⟩
    go_roundw
    case rel => exact ⟨k, hRs⟩
    case measure => exact least_lt hRs (by rw [← HLE.out]; exact Nat.lt_succ_self k)
set_option maxHeartbeats 4000000 in
set_option maxRecDepth 100000 in
theorem maxflow_Fill_calls (a0_0 : Int) (a0_1 : Bool) (A0_2 : Option Addr) (c0_2 : Nat) (l0_2 : List S74) (a1 : Int) (a2 : Int) (r : List Int) (w : World) (hr0_2 : Kd.C k74 w A0_2 l0_2.length l0_2) (hc0_2 : l0_2.length ≤ c0_2) (h : (if endsErr a0_0 l0_2 a1 a2 = 0 then some (fillF l0_2 a0_0.toNat a1.toNat a2.toNat) else none) = some r) :
  Calls Try.prog 121 #[.agg #[.int .i64 a0_0, .bool a0_1, .slice A0_2 l0_2.length c0_2], .int .i64 a1, .int .i64 a2] w fun e w' => ∃ v0_ : Value, e = .returned (v0_) ∧ Kd.R (Kd.int .i64) 3 w' w.heap.size (fun _ => True) v0_ r ∧ Below w.heap.size w w' := by
 by_cases he : endsErr a0_0 l0_2 a1 a2 = 0
 ·rw [if_pos he] at h
  injection h with h
  obtain ⟨n0, s0, t0, rfl, rfl, rfl, hs, ht, hst, hn, hr⟩ := ends_zero he
  simp only [Int.toNat_natCast] at h
  have hM := fill_max hr hs ht hst
  have hlen : r.length = l0_2.length := by rw [← h]; exact hM.flow.right.len
  have HRE := Aside0.mk h
  have harc := hr.arcs
  have hmk := made_ints l0_2.length (by omega)
  obtain ⟨z1, z2⟩ := zeros_of (s := s0) (t := t0) hr
  have HZ1 := Aside0.mk z1
  have HZ2 := Aside0.mk z2
  have H2 := Aside0.mk hr0_2
  have HC2 := Aside0.mk hc0_2
  clear z1 z2 h he hn hr hM hr0_2 hc0_2
  go_enter Try.func121, Try.ntmps121
  go_upto_region 2 with (first | ((with_reducible refine gate_dst (N := 3) rfl ?_); refine box_event ?hg (N := 3) ?hd (cs := #[.int .i64 (n0 : Int), .bool a0_1, .slice A0_2 l0_2.length c0_2]) (t := 24) ?hr ?_; (case hd => rfl); (case hg => rfl); (case hr => first | (go_simp; done) | (go_simp; rfl)); intro g4 hg4 w5 hbox hb; have B4 := Aside0.mk hbox; have HB := Aside0.mk hb; clear hg4 hbox hb; have h2 : w5.cell? ⟨g4, 2, none⟩ = some (.slice A0_2 l0_2.length c0_2) := (blk_cell B4.out 2).trans rfl) | fail)
  have hIA : IsI (w5.alloc (.cells (nums .i64 (List.replicate l0_2.length 0)).toArray 3)) w5.heap.size (List.replicate l0_2.length 0) := heap_alloc_new w5 _
  have HB6 : Aside0 (Below w.heap.size w (w5.alloc (.cells (nums .i64 (List.replicate l0_2.length 0)).toArray 3))) := ⟨below_alloc HB.out _⟩
  have B6 : Aside0 ((w5.alloc (.cells (nums .i64 (List.replicate l0_2.length 0)).toArray 3)).heap[g4]? = _) := ⟨blk_below B4.out (below_alloc (Below.refl _ _) _)⟩
  have hgb : w.heap.size ≤ w5.heap.size := HB.out.size
  clear HB B4 h2 hmk
  generalize w5.alloc (.cells (nums .i64 (List.replicate l0_2.length 0)).toArray 3) = w6 at *
  generalize w5.heap.size = gF at *
  have HIA := Aside0.mk hIA
  clear hIA
  have h0 : w6.cell? ⟨g4, 0, none⟩ = some (.int .i64 (n0 : Int)) := (blk_cell B6.out 0).trans rfl
  have h1 : w6.cell? ⟨g4, 1, none⟩ = some (.bool a0_1) := (blk_cell B6.out 1).trans rfl
  have h2 : w6.cell? ⟨g4, 2, none⟩ = some (.slice A0_2 l0_2.length c0_2) := (blk_cell B6.out 2).trans rfl
  have key := refill_calls n0 a0_1 A0_2 c0_2 l0_2 gF l0_2.length (List.replicate l0_2.length 0) s0 t0 w6 HZ1.out (by rw [HZ2.out]; exact Int.le_refl _) hs ht hst HIA.out (by simp) (Kd.F_mono (Kd.F_below (Kd.C_F heap_k74 H2.out) (below_low (Nat.le_refl _) HB6.out)) (fun k hk => ⟨by have := HB6.out.size; omega, by omega⟩)) HC2.out
  rw [List.length_replicate] at key
  have HKEY := Aside0.mk key
  clear key
  go_wp2_with (first | (go_at_call 155; refine HKEY.out.mono ?_; rintro e_ w9 ⟨rfl, hI, hk⟩) | fail)
  go_ret
  have hI2 : IsI w9 gF r := by rw [← HRE.out]; exact hI
  have hR := hI2.R (base := w.heap.size) (ok := fun _ => True) (by omega) hgb trivial
  rw [hlen] at hR
  exact ⟨_, rfl, hR, hk.toBelow HB6.out HB6.out.size (fun b hb => by have hb : b = gF := hb; omega)⟩
 ·rw [if_neg he] at h; cases h
end Go.Proofs.Ytkcpanpdipmmmaa.H
namespace Go.Proofs.Ytkcpanpdipmmmaa.P
open Go.RowKit Go.Proofs.YtkcpanpdipmmmaaW.PrintWords Go.Proofs.YtkcpanpdipmmmaaW.PrintLast Go.Proofs.YtkcpanpdipmmmaaW.PrintMore
attribute [local go_sem] max2_int min2_int max_two min_two max_three min_three max_four min_four
def maxflow_Fill.f (a0_0 : Int) (a0_1 : Bool) (l0_2 : List (S74)) (a1 : Int) (a2 : Int) : Option (List Int) := (if H.endsErr a0_0 l0_2 a1 a2 = 0 then some (H.fillF l0_2 a0_0.toNat a1.toNat a2.toNat) else none)
theorem maxflow_Fill.calls (a0_0 : Int) (a0_1 : Bool) (A0_2 : Option Addr) (c0_2 : Nat) (l0_2 : List (S74)) (a1 : Int) (a2 : Int) (r : List Int) (w : World) (hr0_2 : Kd.C k74 w A0_2 l0_2.length l0_2) (hc0_2 : l0_2.length ≤ c0_2) (h : maxflow_Fill.f a0_0 a0_1 l0_2 a1 a2 = some r) :
  Calls Try.prog 121 #[.agg #[.int .i64 a0_0, .bool a0_1, .slice A0_2 l0_2.length c0_2], .int .i64 a1, .int .i64 a2] w fun e w' => ∃ v0_ : Value, e = .returned (v0_) ∧ Kd.R (Kd.int .i64) 3 w' w.heap.size (fun _ => True) v0_ r ∧ Below w.heap.size w w' := H.maxflow_Fill_calls a0_0 a0_1 A0_2 c0_2 l0_2 a1 a2 r w hr0_2 hc0_2 h
end Go.Proofs.Ytkcpanpdipmmmaa.P
namespace Go.Proofs.Ytkcpanpdipmmmaa.H
open Go.Proofs.Ytkcpanpdipmmmaa.P
def behindF (l : List S74) (F : List Int) (n s : Nat) : List Bool := (dOf n (bfP l F n s)).map fun k => decide (k ≥ 0)
end Go.Proofs.Ytkcpanpdipmmmaa.H
namespace Go.Proofs.Ytkcpanpdipmmmaa.P
open Go.RowKit Go.Proofs.YtkcpanpdipmmmaaW.PrintWords Go.Proofs.YtkcpanpdipmmmaaW.PrintLast Go.Proofs.YtkcpanpdipmmmaaW.PrintMore
attribute [local go_sem] max2_int min2_int max_two min_two max_three min_three max_four min_four
def mincut_reached.l0 : Nat → List Bool → List Int → Int → Int → Option (List Bool)
 | 0, _, _, _, _ => none
 | k + 1, x3, x9, x10, x11 => if x11 < x10 then (if 0 ≤ x11 then (if x11 < (x9.length : Int) then (if x11 < (x3.length : Int) then (mincut_reached.l0 k (x3.set (x11 : Int).toNat (decide ((rd x9 x11) ≥ 0))) x9 x10 (wrap64 (x11 + 1))) else (none)) else (none)) else (none)) else (some x3)
def mincut_reached.f (k : Nat) (l0 : List Int) : Option (List Bool) := if 0 ≤ (l0.length : Int) then (if ((l0.length : Int) : Int).toNat ≤ 281474976710656 then (mincut_reached.l0 k (List.replicate ((l0.length : Int) : Int).toNat false) l0 (l0.length : Int) 0) else (none)) else (none)
set_option maxHeartbeats 8000000 in
set_option maxRecDepth 100000 in
theorem mincut_reached.calls (k : Nat) (A0 : Option Addr) (c0 : Nat) (l0 : List Int) (r : List Bool) (w : World) (hr0 : Kd.C (Kd.int .i64) w A0 l0.length l0) (hc0 : l0.length ≤ c0) (h : mincut_reached.f k l0 = some r) :
  Calls Try.prog 128 #[.slice A0 l0.length c0] w fun e w' => ∃ v0_ : Value, e = .returned (v0_) ∧ Kd.R Kd.bool 4 w' w.heap.size (fun _ => True) v0_ r ∧ Below w.heap.size w w' := by
 have HR0 := Aside0.mk hr0
 have HC0 := Aside0.mk hc0
 clear hr0 hc0
 have HB := Aside0.mk (Below.refl w.heap.size w)
 have H : (if 0 ≤ (l0.length : Int) then (if ((l0.length : Int) : Int).toNat ≤ 281474976710656 then (mincut_reached.l0 k (List.replicate ((l0.length : Int) : Int).toNat false) l0 (l0.length : Int) 0) else (none)) else (none)) = some r := h
 clear h
 by_cases c2 : 0 ≤ (l0.length : Int)
 rotate_left
 ·rw [if_neg c2] at H
  exact absurd H (by simp)
 rw [if_pos c2] at H
 have c2b0 := eq_true c2
 have c2b1 : decide (0 ≤ (l0.length : Int)) = true := decide_eq_true c2
 clear c2
 by_cases c3 : ((l0.length : Int) : Int).toNat ≤ 281474976710656
 rotate_left
 ·rw [if_neg c3] at H
  exact absurd H (by simp)
 rw [if_pos c3] at H
 have c3b0 := eq_true c3
 have c3b1 : decide (((l0.length : Int) : Int).toNat ≤ 281474976710656) = true := decide_eq_true c3
 clear c3
 obtain ⟨y977, hy977⟩ : ∃ y_ : List Bool, y_ = (List.replicate ((l0.length : Int) : Int).toNat false) := ⟨_, rfl⟩
 replace H : (mincut_reached.l0 k y977 l0 (l0.length : Int) 0) = some r := by first | (rw [hy977]; with_reducible exact H) | (have H2_ := (Option.bind_some _ _).symm.trans H; rw [hy977]; with_reducible exact H2_) | (have H2_ := (Option.bind_some _ _).symm.trans H; with_reducible exact H2_) | with_reducible exact H | (rw [hy977]; exact H) | exact H
 have Ny977 := Aside0.mk hy977
 clear hy977
 have H' := Aside0.mk H
 clear H
 go_enter Try.func128, Try.ntmps128
 go_wp2_with (first | ((with_reducible refine gate_dst (N := 8) rfl ?_); refine Kd.R_make Kd.bool _ 4 rfl (N := 8) rfl 26 _ _ rfl (l0.length : Int) rfl rfl Try.underlying26 (.bool false) 1 info4 rfl (by decide) (by omega) false (ok := fun _ => True) (okp := fun _ => True) rfl (fun _ hk => hk) trivial (of_decide_eq_true (by first | (with_reducible assumption) | assumption)) (Nat.le_trans (Nat.mul_le_mul_right _ (of_decide_eq_true (by first | (with_reducible assumption) | assumption) : (l0.length : Int).toNat ≤ 281474976710656)) (by omega)) (Below.refl _ _) (Nat.le_refl _) ?_; intro v978 w4 ho5 hb hg_ hnew_; clear hg_ hnew_; (first | rw [← Ny977.out] at ho5 | (simp only [Int.reduceToNat] at ho5; rw [← Ny977.out] at ho5)); have n0_ := Aside0.mk (Kd.R_lower ho5 (below_size (by repeat (first | (with_reducible first | exact HB.out | apply below_alloc | apply pw_below_drewN | apply below_drew1) | exact HB.out)))); have n1_ := Aside0.mk (below_step (by repeat (first | (with_reducible first | exact HB.out | apply below_alloc | apply pw_below_drewN | apply below_drew1) | exact HB.out)) hb); clear HB; have HO979 := n0_; have HB := n1_; clear n0_ n1_; clear hb ho5))
 go_loopg [11] k (fun kq v11 w' => ∃ (x3_1 : List Bool) (x11_1 : Int), v11 = .int .i64 x11_1 ∧ Aside0 (mincut_reached.l0 kq x3_1 l0 (l0.length : Int) x11_1 = some r) ∧ Aside0 (kq ≤ k) ∧ Aside0 (Kd.R Kd.bool 4 w' w.heap.size (fun _ => True) v978 x3_1) ∧ Aside0 (Below w.heap.size w w'))
 case atStart => exact ⟨(y977), (0), (by first | rfl | (simp; done) | (simp [*]; done)), H', ⟨Nat.le_refl _⟩, ⟨by (with_reducible repeat (first | apply Kd.R_alloc | apply Kd.R_drewN | apply Kd.R_drew)); exact HO979.out⟩, ⟨by repeat (first | (with_reducible first | exact HB.out | apply below_alloc | apply pw_below_drewN | apply below_drew1) | exact HB.out)⟩⟩
 case round =>
  clear H'
  try clear c1
  try clear c2
  try clear c2b0
  try clear c2b1
  try clear p2
  try clear c3
  try clear c3b0
  try clear c3b1
  obtain ⟨x3_1, x11_1, rfl, HA, HK1, HO_3, HB⟩ := hrel
  cases gk with
  | zero => exact absurd HA.out (by simp [mincut_reached.l0])
  | succ k1 =>
   have H := HA.out
   clear HA
   simp only [mincut_reached.l0] at H
   by_cases c6 : x11_1 < (l0.length : Int)
   rotate_left
   ·rw [if_neg c6] at H
    have c6b0 : decide (x11_1 < (l0.length : Int)) = false := decide_eq_false c6
    clear c6
    obtain rfl := Option.some.inj H
    go_wp2
    go_ret
    exact ⟨_, by first | rfl | (simp [errW_none, errW_some] <;> rfl) | (simp [*, errW_none, errW_some] <;> rfl), by (with_reducible repeat (first | apply Kd.R_alloc | apply Kd.R_drewN | apply Kd.R_drew)); exact HO_3.out, by repeat (first | (with_reducible first | exact HB.out | apply below_alloc | apply pw_below_drewN | apply below_drew1) | exact HB.out)⟩
   rw [if_pos c6] at H
   have c6b0 : decide (x11_1 < (l0.length : Int)) = true := decide_eq_true c6
   clear c6
   by_cases c7 : 0 ≤ x11_1
   rotate_left
   ·rw [if_neg c7] at H
    exact absurd H (by simp)
   rw [if_pos c7] at H
   have c7b0 : decide (0 ≤ x11_1) = true := decide_eq_true c7
   clear c7
   by_cases c8 : x11_1 < (l0.length : Int)
   rotate_left
   ·rw [if_neg c8] at H
    exact absurd H (by simp)
   rw [if_pos c8] at H
   have c8b0 : decide (x11_1 < (l0.length : Int)) = true := decide_eq_true c8
   clear c8
   by_cases c9 : x11_1 < (x3_1.length : Int)
   rotate_left
   ·rw [if_neg c9] at H
    exact absurd H (by simp)
   rw [if_pos c9] at H
   have c9b0 : decide (x11_1 < (x3_1.length : Int)) = true := decide_eq_true c9
   clear c9
   obtain ⟨y981, hy981⟩ : ∃ y_ : List Bool, y_ = (x3_1.set (x11_1 : Int).toNat (decide ((rd l0 x11_1) ≥ 0))) := ⟨_, rfl⟩
   replace H : (mincut_reached.l0 k1 y981 l0 (l0.length : Int) (wrap64 (x11_1 + 1))) = some r := by first | (rw [hy981]; with_reducible exact H) | (have H2_ := (Option.bind_some _ _).symm.trans H; rw [hy981]; with_reducible exact H2_) | (have H2_ := (Option.bind_some _ _).symm.trans H; with_reducible exact H2_) | with_reducible exact H | (rw [hy981]; exact H) | exact H
   have Ny981 := Aside0.mk hy981
   clear hy981
   have H' := Aside0.mk H
   clear H
   have p980 : 0 ≤ (x11_1 : Int) := of_decide_eq_true (by first | (with_reducible assumption) | assumption)
   have q980 : x11_1 < (l0.length : Int) := of_decide_eq_true (by first | (with_reducible assumption) | assumption)
   obtain ⟨ad980, e980, hx980_0⟩ := Kd.at_int HR0.out x11_1 p980 q980
   cases e980
   replace hx980_0 := (HB.out.cell (World.block_lt_of_cell? w _ hx980_0)).trans hx980_0
   replace p980 := eq_true p980
   replace q980 := eq_true q980
   have p10 : 0 ≤ (x11_1 : Int) := of_decide_eq_true (by first | (with_reducible assumption) | assumption)
   have q10 : (x11_1 : Int) < ((x3_1.length : Int) : Int) := of_decide_eq_true (by first | (with_reducible assumption) | assumption)
   obtain ⟨go10, co10, eo10, gb10, gl10, cl10, HG10⟩ := Kd.R_form HO_3.out (by omega)
   (first | cases eo10 | (injection eo10 with ea_ en_ ec_; (first | subst ea_ | (injection ea_ with ea_; subst ea_)); subst ec_; clear en_))
   have GB10 := Aside0.mk gb10
   have GG10 := Aside0.mk HG10
   clear gb10 gl10 HG10
   obtain ⟨hx10_0, hf10_0⟩ := Kd.R_celln false HO_3.out (x11_1 : Int) p10 q10
   replace p10 := eq_true p10
   replace q10 := eq_true q10
   have HP11 := Kd.R_putg HO_3.out (x11_1 : Int) (decide ((rd l0 x11_1) ≥ 0))
   go_wp2_with (first | ((with_reducible refine gate_store (t := 4) (p := 20) rfl ?_); refine store_event (t := 4) (p := 20) (v := ?vo_w12) (w1 := (wr.setCell ⟨go10, (x11_1 : Int).toNat, none⟩ (.bool (decide ((rd l0 x11_1) ≥ 0))))) ?hg ?ho ?hn ?hr ?_; (case ho => rfl); (case hg => rfl); (case hn => rfl); (case hr => first | (go_simp; done) | (go_simp; rfl)); intro w12 hw; have hg : wr.grownBy w12 (some go10) := (by rw [hw]; exact HP11.2); have hp_ : Kd.R Kd.bool 4 w12 w.heap.size (fun _ => True) (.slice (some ⟨go10, 0, none⟩) x3_1.length co10) y981 := (by rw [hw, Ny981.out]; exact HP11.1); clear HP11; have n0_ := Aside0.mk (hp_); have n1_ := Aside0.mk ((by rw [hw]; exact below_set (HB.out) GB10.out : Below w.heap.size w w12)); clear HO_3; clear HB; have HO_3 := n0_; have HB := n1_; clear n0_ n1_; clear hg hw hp_))
   go_roundg k1
   case measure => have := HK1.out; omega
   case rel => exact ⟨(y981), (wrap64 (x11_1 + 1)), (by first | rfl | (simp; done) | (simp [*]; done)), H', ⟨by have := HK1.out; omega⟩, ⟨by (with_reducible repeat (first | apply Kd.R_alloc | apply Kd.R_drewN | apply Kd.R_drew)); exact HO_3.out⟩, ⟨by repeat (first | (with_reducible first | exact HB.out | apply below_alloc | apply pw_below_drewN | apply below_drew1) | exact HB.out)⟩⟩
end Go.Proofs.Ytkcpanpdipmmmaa.P
namespace Go.Proofs.Ytkcpanpdipmmmaa.Q
open Go.RowKit Go.Proofs.YtkcpanpdipmmmaaW.PrintWords Go.Proofs.YtkcpanpdipmmmaaW.PrintLast Go.Proofs.YtkcpanpdipmmmaaW.PrintMore Go.Proofs.Ytkcpanpdipmmmaa.P
def farB (d : List Int) : List Bool := d.map fun k => decide (k ≥ 0)
theorem reached_l0 (d : List Int) (hd : d.length ≤ 1000000) (m : Nat) : ∀ i : Nat, i + m = d.length →
  Ev (fun k => mincut_reached.l0 k (farB (d.take i) ++ List.replicate (d.length - i) false) d (d.length : Int) (i : Int)) (farB d) := by
 induction m with
 | zero =>
  intro i hi
  refine Ev.succ ?_; simp only [mincut_reached.l0]
  refine Ev.neg (by omega) ?_
  refine Ev.done ?_
  rw [List.take_of_length_le (by omega), show d.length - i = 0 by omega, List.replicate_zero, List.append_nil]
 | succ m ih =>
  intro i hi
  have hnx := ih (i + 1) (by omega)
  have e : (farB (d.take i) ++ List.replicate (d.length - i) false).set i (decide (rd d (i : Int) ≥ 0)) = farB (d.take (i + 1)) ++ List.replicate (d.length - (i + 1)) false := by
   rw [rd_nat, List.getD_eq_getElem?_getD, List.getElem?_eq_getElem (by omega)]
   rw [show d.length - i = (d.length - (i + 1)) + 1 by omega, List.replicate_succ]
   have hl : (farB (d.take i)).length = i := by unfold farB; rw [List.length_map, List.length_take]; omega
   rw [List.set_append, if_neg (by omega), hl, Nat.sub_self, List.set_cons_zero]
   rw [List.take_add_one, List.getElem?_eq_getElem (by omega)]
   unfold farB
   rw [List.map_append, List.append_assoc]
   rfl
  rw [← e] at hnx
  refine Ev.succ ?_; simp only [mincut_reached.l0]
  refine Ev.pos (by omega) ?_
  refine Ev.pos (by omega) ?_
  refine Ev.pos (by omega) ?_
  refine Ev.pos (by unfold farB; rw [List.length_append, List.length_map, List.length_take, List.length_replicate]; omega) ?_
  rw [wrap_succ (n := d.length) (by omega) (by omega), Int.toNat_natCast]
  exact hnx
theorem reached_ev (d : List Int) (hd : d.length ≤ 1000000) : Ev (fun k => mincut_reached.f k d) (farB d) := by
 unfold mincut_reached.f
 refine Ev.pos (by omega) ?_
 refine Ev.pos (by omega) ?_
 rw [Int.toNat_natCast]
 exact reached_l0 d hd d.length 0 (by omega)
end Go.Proofs.Ytkcpanpdipmmmaa.Q
namespace Go.Proofs.Ytkcpanpdipmmmaa.H
open Go.RowKit Go.Proofs.YtkcpanpdipmmmaaW.PrintWords Go.Proofs.YtkcpanpdipmmmaaW.PrintLast Go.Proofs.YtkcpanpdipmmmaaW.PrintMore Go.Proofs.Ytkcpanpdipmmmaa.P Go.Proofs.Ytkcpanpdipmmmaa.Q
set_option maxHeartbeats 4000000 in
set_option maxRecDepth 100000 in
theorem mincut_Behind_calls (a0_0 : Int) (a0_1 : Bool) (A0_2 : Option Addr) (c0_2 : Nat) (l0_2 : List S74) (A1 : Option Addr) (c1 : Nat) (l1 : List Int) (a2 : Int) (r : List Bool) (w : World) (hr0_2 : Kd.C k74 w A0_2 l0_2.length l0_2) (hc0_2 : l0_2.length ≤ c0_2) (hr1 : Kd.C (Kd.int .i64) w A1 l1.length l1) (hc1 : l1.length ≤ c1) (h : (if askErr a0_0 l0_2 l1 = 0 ∧ 0 ≤ a2 ∧ a2 < a0_0 then some (behindF l0_2 l1 a0_0.toNat a2.toNat) else none) = some r) :
  Calls Try.prog 124 #[.agg #[.int .i64 a0_0, .bool a0_1, .slice A0_2 l0_2.length c0_2], .slice A1 l1.length c1, .int .i64 a2] w fun e w' => ∃ v0_ : Value, e = .returned (v0_) ∧ Kd.R Kd.bool 4 w' w.heap.size (fun _ => True) v0_ r ∧ Below w.heap.size w w' := by
 by_cases he : askErr a0_0 l0_2 l1 = 0 ∧ 0 ≤ a2 ∧ a2 < a0_0
 ·rw [if_pos he] at h
  injection h with h
  obtain ⟨h0, h1, h2⟩ := he
  obtain ⟨n0, rfl, hR⟩ := right_of h0
  obtain ⟨s0, rfl⟩ : ∃ s0 : Nat, a2 = s0 := ⟨a2.toNat, by omega⟩
  rw [Int.toNat_natCast, Int.toNat_natCast] at h
  have hs0 : s0 < n0 := by omega
  have hn50 := hR.fifty
  have harc := hR.arcs
  obtain ⟨K, hK⟩ := reached_ev (dOf n0 (bfP l0_2 l1 n0 s0)) (by rw [dOf_len]; omega)
  have hr := hK K (Nat.le_refl _)
  have hb : farB (dOf n0 (bfP l0_2 l1 n0 s0)) = r := h
  rw [hb] at hr
  have HRC := Aside0.mk hr
  have HR := Aside0.mk hR
  have H2 := Aside0.mk hr0_2
  have H3 := Aside0.mk hr1
  have HC2 := Aside0.mk hc0_2
  have HC1 := Aside0.mk hc1
  clear h h0 h1 h2 hK hr hb hR hr0_2 hr1 hc0_2 hc1
  go_enter Try.func124, Try.ntmps124
  go_wp2_with (first | ((with_reducible refine gate_dst (N := 3) rfl ?_); refine box_event ?hg (N := 3) ?hd (cs := #[.int .i64 (n0 : Int), .bool a0_1, .slice A0_2 l0_2.length c0_2]) (t := 24) ?hr ?_; (case hd => rfl); (case hg => rfl); (case hr => first | (go_simp; done) | (go_simp; rfl)); intro g4 hg4 w5 hbox hb; have B4 := Aside0.mk hbox; have HB := Aside0.mk hb; clear hg4 hbox hb; have h0 : w5.cell? ⟨g4, 0, none⟩ = some (.int .i64 (n0 : Int)) := (blk_cell B4.out 0).trans rfl; have h1 : w5.cell? ⟨g4, 1, none⟩ = some (.bool a0_1) := (blk_cell B4.out 1).trans rfl; have h2 : w5.cell? ⟨g4, 2, none⟩ = some (.slice A0_2 l0_2.length c0_2) := (blk_cell B4.out 2).trans rfl) | (go_at_call 101; refine (at_calls n0 a0_1 A0_2 c0_2 l0_2 A1 c1 l1.length _ (Kd.C_below H2.out HB.out) HC2.out (by omega) (by omega) (by omega) (fun k hk => (HR.out.ends k hk).1) (fun k hk => (HR.out.ends k hk).2)).mono ?_; rintro e_ w7 ⟨vr, rfl, hS, hb⟩; obtain ⟨A4, c4, ev⟩ := Kd.S_slice hS; subst ev; have H4 := Aside0.mk (Kd.S_reads' hS).2.2; rw [rowsAt_len] at H4 ⊢; have n0_ := Aside0.mk (below_step HB.out hb); clear HB hb hS h0 h1 h2; have HB := n0_; clear n0_) | (go_at_call 108; refine (far_calls n0 a0_1 A0_2 c0_2 l0_2 A1 c1 l1 A4 c4 s0 _ HR.out hs0 HC2.out HC1.out (Kd.C_below H2.out HB.out) (Kd.C_below H3.out HB.out) H4.out).mono ?_; rintro e_ w8 ⟨gd, rfl, hge, hd, hb⟩; have HD := Aside0.mk hd; have n0_ := Aside0.mk (below_step HB.out hb); clear HB hb hd hge; have HB := n0_; clear n0_; have HCD : Aside0 (Kd.C (Kd.int .i64) w8 (some ⟨gd, 0, none⟩) n0 (dOf n0 (bfP l0_2 l1 n0 s0))) := ⟨by have h_ := (Kd.R_reads' (HD.out.R (by rw [dOf_len]; omega) (base := 0) (Nat.zero_le _) (ok := fun _ => True) trivial)).2.2; rw [dOf_len] at h_; exact h_⟩) | (go_at_call 128; have key := mincut_reached.calls K (some ⟨gd, 0, none⟩) n0 (dOf n0 (bfP l0_2 l1 n0 s0)) r w8 (by rw [dOf_len]; exact HCD.out) (by rw [dOf_len]; exact Nat.le_refl _) HRC.out; rw [dOf_len] at key; refine key.mono ?_; rintro e_ w9 ⟨v0, rfl, hr9, hb⟩; have HR9 := Aside0.mk (Kd.R_lower hr9 HB.out.size); have n0_ := Aside0.mk (below_step HB.out hb); clear HB hb hr9; have HB := n0_; clear n0_) | fail)
  go_ret
  exact ⟨_, rfl, HR9.out, HB.out⟩
 ·rw [if_neg he] at h; cases h
end Go.Proofs.Ytkcpanpdipmmmaa.H
namespace Go.Proofs.Ytkcpanpdipmmmaa.P
open Go.RowKit Go.Proofs.YtkcpanpdipmmmaaW.PrintWords Go.Proofs.YtkcpanpdipmmmaaW.PrintLast Go.Proofs.YtkcpanpdipmmmaaW.PrintMore
attribute [local go_sem] max2_int min2_int max_two min_two max_three min_three max_four min_four
def mincut_Behind.f (a0_0 : Int) (a0_1 : Bool) (l0_2 : List (S74)) (l1 : List Int) (a2 : Int) : Option (List Bool) := (if Q.askErr a0_0 l0_2 l1 = 0 ∧ 0 ≤ a2 ∧ a2 < a0_0 then some (H.behindF l0_2 l1 a0_0.toNat a2.toNat) else none)
theorem mincut_Behind.calls (a0_0 : Int) (a0_1 : Bool) (A0_2 : Option Addr) (c0_2 : Nat) (l0_2 : List (S74)) (A1 : Option Addr) (c1 : Nat) (l1 : List Int) (a2 : Int) (r : List Bool) (w : World) (hr0_2 : Kd.C k74 w A0_2 l0_2.length l0_2) (hc0_2 : l0_2.length ≤ c0_2) (hr1 : Kd.C (Kd.int .i64) w A1 l1.length l1) (hc1 : l1.length ≤ c1) (h : mincut_Behind.f a0_0 a0_1 l0_2 l1 a2 = some r) :
  Calls Try.prog 124 #[.agg #[.int .i64 a0_0, .bool a0_1, .slice A0_2 l0_2.length c0_2], .slice A1 l1.length c1, .int .i64 a2] w fun e w' => ∃ v0_ : Value, e = .returned (v0_) ∧ Kd.R Kd.bool 4 w' w.heap.size (fun _ => True) v0_ r ∧ Below w.heap.size w w' := H.mincut_Behind_calls a0_0 a0_1 A0_2 c0_2 l0_2 A1 c1 l1 a2 r w hr0_2 hc0_2 hr1 hc1 h
end Go.Proofs.Ytkcpanpdipmmmaa.P
namespace Go.Proofs.Ytkcpanpdipmmmaa.P
open Go.RowKit Go.Proofs.YtkcpanpdipmmmaaW.PrintWords Go.Proofs.YtkcpanpdipmmmaaW.PrintLast Go.Proofs.YtkcpanpdipmmmaaW.PrintMore
attribute [local go_sem] max2_int min2_int max_two min_two max_three min_three max_four min_four
def mincut_Least.f (k : Nat) (a0_0 : Int) (a0_1 : Bool) (l0_2 : List (S74)) (a1 : Int) (a2 : Int) : Option (List Bool × Int × Int) := (static_Ends.f k a0_0 a0_1 l0_2 a1 a2).bind fun t989 => (if t989 = 0 then ((maxflow_Fill.f a0_0 a0_1 l0_2 a1 a2).bind fun t990 => ((mincut_Behind.f a0_0 a0_1 l0_2 t990 a1).bind fun t993 => ((mincut_takes.f k a0_0 a0_1 l0_2 t993).bind fun t996 => (some (t993, t996, 0))))) else (some (([] : List Bool), 0, t989)))
def mincut_Least.T4 : Bool × List (List Nat × List Nat) := (true, [([], []), ([], []), ([], []), ([], []), ([1, 2, 3], [1, 2, 3]), ([], []), ([0, 4, 5, 4], [0, 4, 5]), ([6, 6, 0, 1, 2, 3, 4, 5, 6], [6])])
def mincut_Least.B4 : List Nat := [0, 0, 0, 0, 14, 0, 63, 127]
theorem mincut_Least.tab4 : rtab .any (opsOf Try.f79 4) = mincut_Least.T4 := by kernel_rfl
theorem mincut_Least.bits4 : waitsOk mincut_Least.T4.2 mincut_Least.B4 = true := by kernel_rfl
set_option maxHeartbeats 8000000 in
set_option maxRecDepth 100000 in
theorem mincut_Least.calls (k : Nat) (a0_0 : Int) (a0_1 : Bool) (A0_2 : Option Addr) (c0_2 : Nat) (l0_2 : List (S74)) (a1 : Int) (a2 : Int) (r1 : List Bool) (r2 : Int) (r3 : Int) (w : World) (hr0_2 : Kd.C k74 w A0_2 l0_2.length l0_2) (hc0_2 : l0_2.length ≤ c0_2) (h : mincut_Least.f k a0_0 a0_1 l0_2 a1 a2 = some (r1, r2, r3)) :
  Calls Try.prog 79 #[.agg #[.int .i64 a0_0, .bool a0_1, .slice A0_2 l0_2.length c0_2], .int .i64 a1, .int .i64 a2] w fun e w' => ∃ v0_ : Value, e = .returned (.tuple #[v0_, .int .i64 r2, .int .i64 r3]) ∧ Kd.R Kd.bool 4 w' w.heap.size (fun _ => True) v0_ r1 ∧ Below w.heap.size w w' := by
 have hu24 := Try.underlying24
 have HR0_2 := Aside0.mk hr0_2
 have HC0_2 := Aside0.mk hc0_2
 clear hr0_2 hc0_2
 have HB := Aside0.mk (Below.refl w.heap.size w)
 have H : ((static_Ends.f k a0_0 a0_1 l0_2 a1 a2).bind fun t989 => (if t989 = 0 then ((maxflow_Fill.f a0_0 a0_1 l0_2 a1 a2).bind fun t990 => ((mincut_Behind.f a0_0 a0_1 l0_2 t990 a1).bind fun t993 => ((mincut_takes.f k a0_0 a0_1 l0_2 t993).bind fun t996 => (some (t993, t996, 0))))) else (some (([] : List Bool), 0, t989)))) = some (r1, r2, r3) := h
 clear h
 replace H := Option.bind_eq_some_iff.mp H
 obtain ⟨t989, A40, H⟩ := H
 replace H : (if t989 = 0 then ((maxflow_Fill.f a0_0 a0_1 l0_2 a1 a2).bind fun t990 => ((mincut_Behind.f a0_0 a0_1 l0_2 t990 a1).bind fun t993 => ((mincut_takes.f k a0_0 a0_1 l0_2 t993).bind fun t996 => (some (t993, t996, 0))))) else (some (([] : List Bool), 0, t989))) = some (r1, r2, r3) := H
 have A4 := Aside0.mk A40
 clear A40
 by_cases c5 : t989 = 0
 rotate_left
 ·rw [if_neg c5] at H
  have c5b0 : (t989 == 0) = false := beq_eq_false_iff_ne.mpr c5
  have c5b1 : (t989 != 0) = true := bne_iff_ne.mpr c5
  simp only [Option.some.injEq, Prod.mk.injEq] at H
  obtain ⟨rfl, rfl, rfl⟩ := H
  go_enter Try.func79, Try.ntmps79
  go_wp2_with (first | ((with_reducible refine gate_dst (N := 3) rfl ?_); refine box_event ?hg (N := 3) ?hd (cs := #[.int .i64 a0_0, .bool a0_1, .slice A0_2 l0_2.length c0_2]) (t := 24) ?hr ?_; (case hd => rfl); (case hg => rfl); (case hr => first | (go_simp; done) | (go_simp; rfl)); intro gb988 hg w19 hbox hb; have n0_ := Aside0.mk (below_step (by repeat (first | (with_reducible first | exact HB.out | apply below_alloc | apply pw_below_drewN | apply below_drew1) | exact HB.out)) hb); have n1_ := Aside0.mk (hbox); have n2_ := Aside0.mk ((by rw [hg]; exact (below_size (by repeat (first | (with_reducible first | exact HB.out | apply below_alloc | apply pw_below_drewN | apply below_drew1) | exact HB.out))) : w.heap.size ≤ gb988)); have n3_ := Aside0.mk ((by rw [hg]; exact (below_size (by repeat (first | (with_reducible first | exact HB.out | apply below_alloc | apply pw_below_drewN | apply below_drew1) | exact HB.out))) : w.heap.size ≤ gb988)); clear HB; have HB := n0_; have BK988 := n1_; have GW988 := n2_; have GE988 := n3_; clear n0_ n1_ n2_ n3_; clear hb hbox hg; have hcz20_0 : w19.cell? ⟨gb988, 0, none⟩ = some (.int .i64 a0_0) := (blk_cell BK988.out 0).trans rfl; have hcz20_1 : w19.cell? ⟨gb988, 1, none⟩ = some (.bool a0_1) := (blk_cell BK988.out 1).trans rfl; have hcz20_2 : w19.cell? ⟨gb988, 2, none⟩ = some (.slice A0_2 l0_2.length c0_2) := (blk_cell BK988.out 2).trans rfl; have hfz20_0 := blk_frozen BK988.out 0; have hfz20_1 := blk_frozen BK988.out 1; have hfz20_2 := blk_frozen BK988.out 2) | ((with_reducible refine gate_callee (f := 111) rfl ?_); refine goesL_ (some 12) rfl rfl Try.func111 (by kernel_rfl) rfl #[.agg #[.int .i64 a0_0, .bool a0_1, .slice A0_2 l0_2.length c0_2], .int .i64 a1, .int .i64 a2] rfl (by (try simp only [List.map_toArray, List.map_cons, List.map_nil]); first | done | rfl | (simp only [List.length_drop, List.length_take]; rfl)) ?_; (with_reducible refine (static_Ends.calls k a0_0 a0_1 _ _ l0_2 a1 a2 t989 _ ?side1 ?side2 A4.out).mono ?_); (case side1 => repeat (first | exact (Kd.C_below HR0_2.out HB.out) | (with_reducible refine Kd.C_alloc ?_ _) | (with_reducible refine Kd.C_drewN ?_ _) | (with_reducible refine Kd.C_drew ?_))); (case side2 => exact HC0_2.out); rintro e w21 ⟨rfl, hb⟩; refine ⟨_, rfl, ?_⟩; have n0_ := Aside0.mk (blk_below (g := gb988) (o := .cells #[.int .i64 a0_0, .bool a0_1, .slice A0_2 l0_2.length c0_2] 24 (0, 0)) (by (with_reducible repeat (first | refine blk_drewN ?_ _ | refine blk_drew ?_ | refine blk_alloc ?_ _)); exact BK988.out) hb); have n1_ := Aside0.mk (below_step (by repeat (first | (with_reducible first | exact HB.out | apply below_alloc | apply pw_below_drewN | apply below_drew1 | refine below_set ?_ GE988.out) | exact HB.out)) hb); clear BK988; clear HB; have BK988 := n0_; have HB := n1_; clear n0_ n1_; (try clear hb); (try clear hb2); (try clear hk); (try clear hi)))
  go_ret3
  exact ⟨_, by first | rfl | (simp [errW_none, errW_some] <;> rfl) | (simp [*, errW_none, errW_some] <;> rfl), by first | exact Kd.R_nil _ _ _ _ _ | exact Kd.N_nil _ _ _ _ _ | exact Kd.V_nil _ _ _ _ _ | exact Kd.Q_nil _ _ _ _ _ | exact Kd.S_nil _ _ _ _ _, by repeat (first | (with_reducible first | exact HB.out | apply below_alloc | apply pw_below_drewN | apply below_drew1 | refine below_set ?_ GE988.out) | exact HB.out)⟩
 rw [if_pos c5] at H
 have c5b0 : (t989 == 0) = true := beq_iff_eq.mpr c5
 have c5b1 : (t989 != 0) = false := bne_eq_false_iff_eq.mpr c5
 clear c5
 replace H := Option.bind_eq_some_iff.mp H
 obtain ⟨t990, A60, H⟩ := H
 replace H : ((mincut_Behind.f a0_0 a0_1 l0_2 t990 a1).bind fun t993 => ((mincut_takes.f k a0_0 a0_1 l0_2 t993).bind fun t996 => (some (t993, t996, 0)))) = some (r1, r2, r3) := H
 have A6 := Aside0.mk A60
 clear A60
 replace H := Option.bind_eq_some_iff.mp H
 obtain ⟨t993, A70, H⟩ := H
 replace H : ((mincut_takes.f k a0_0 a0_1 l0_2 t993).bind fun t996 => (some (t993, t996, 0))) = some (r1, r2, r3) := H
 have A7 := Aside0.mk A70
 clear A70
 replace H := Option.bind_eq_some_iff.mp H
 obtain ⟨t996, A80, H⟩ := H
 replace H : (some (t993, t996, 0)) = some (r1, r2, r3) := H
 have A8 := Aside0.mk A80
 clear A80
 simp only [Option.some.injEq, Prod.mk.injEq] at H
 obtain ⟨rfl, rfl, rfl⟩ := H
 go_enter Try.func79, Try.ntmps79
 try go_wp2_with (first | ((with_reducible refine gate_dst (N := 3) rfl ?_); refine box_event ?hg (N := 3) ?hd (cs := #[.int .i64 a0_0, .bool a0_1, .slice A0_2 l0_2.length c0_2]) (t := 24) ?hr ?_; (case hd => rfl); (case hg => rfl); (case hr => first | (go_simp; done) | (go_simp; rfl)); intro gb988 hg w9 hbox hb; have n0_ := Aside0.mk (below_step (by repeat (first | (with_reducible first | exact HB.out | apply below_alloc | apply pw_below_drewN | apply below_drew1) | exact HB.out)) hb); have n1_ := Aside0.mk (hbox); have n2_ := Aside0.mk ((by rw [hg]; exact (below_size (by repeat (first | (with_reducible first | exact HB.out | apply below_alloc | apply pw_below_drewN | apply below_drew1) | exact HB.out))) : w.heap.size ≤ gb988)); have n3_ := Aside0.mk ((by rw [hg]; exact (below_size (by repeat (first | (with_reducible first | exact HB.out | apply below_alloc | apply pw_below_drewN | apply below_drew1) | exact HB.out))) : w.heap.size ≤ gb988)); clear HB; have HB := n0_; have BK988 := n1_; have GW988 := n2_; have GE988 := n3_; clear n0_ n1_ n2_ n3_; clear hb hbox hg; have hcz10_0 : w9.cell? ⟨gb988, 0, none⟩ = some (.int .i64 a0_0) := (blk_cell BK988.out 0).trans rfl; have hcz10_1 : w9.cell? ⟨gb988, 1, none⟩ = some (.bool a0_1) := (blk_cell BK988.out 1).trans rfl; have hcz10_2 : w9.cell? ⟨gb988, 2, none⟩ = some (.slice A0_2 l0_2.length c0_2) := (blk_cell BK988.out 2).trans rfl; have hfz10_0 := blk_frozen BK988.out 0; have hfz10_1 := blk_frozen BK988.out 1; have hfz10_2 := blk_frozen BK988.out 2) | ((with_reducible refine gate_callee (f := 111) rfl ?_); refine goesL_ (some 12) rfl rfl Try.func111 (by kernel_rfl) rfl #[.agg #[.int .i64 a0_0, .bool a0_1, .slice A0_2 l0_2.length c0_2], .int .i64 a1, .int .i64 a2] rfl (by (try simp only [List.map_toArray, List.map_cons, List.map_nil]); first | done | rfl | (simp only [List.length_drop, List.length_take]; rfl)) ?_; (with_reducible refine (static_Ends.calls k a0_0 a0_1 _ _ l0_2 a1 a2 t989 _ ?side1 ?side2 A4.out).mono ?_); (case side1 => repeat (first | exact (Kd.C_below HR0_2.out HB.out) | (with_reducible refine Kd.C_alloc ?_ _) | (with_reducible refine Kd.C_drewN ?_ _) | (with_reducible refine Kd.C_drew ?_))); (case side2 => exact HC0_2.out); rintro e w11 ⟨rfl, hb⟩; refine ⟨_, rfl, ?_⟩; have n0_ := Aside0.mk (blk_below (g := gb988) (o := .cells #[.int .i64 a0_0, .bool a0_1, .slice A0_2 l0_2.length c0_2] 24 (0, 0)) (by (with_reducible repeat (first | refine blk_drewN ?_ _ | refine blk_drew ?_ | refine blk_alloc ?_ _)); exact BK988.out) hb); have n1_ := Aside0.mk (below_step (by repeat (first | (with_reducible first | exact HB.out | apply below_alloc | apply pw_below_drewN | apply below_drew1 | refine below_set ?_ GE988.out) | exact HB.out)) hb); clear BK988; clear HB; have BK988 := n0_; have HB := n1_; clear n0_ n1_; (try clear hb); (try clear hb2); (try clear hk); (try clear hi)))
 have n0_ := Aside0.mk (blk_drew BK988.out)
 have n1_ := Aside0.mk (below_drew1 HB.out)
 clear BK988
 clear HB
 have BK988 := n0_
 have HB := n1_
 clear n0_ n1_
 refine start_ (n := 8) (S := fun w' => w'.cell? ⟨gb988, 0, none⟩ = some (.int .i64 a0_0) ∧ w'.cell? ⟨gb988, 1, none⟩ = some (.bool a0_1) ∧ w'.cell? ⟨gb988, 2, none⟩ = some (.slice A0_2 l0_2.length c0_2)) (ds := []) #[false, false, false, false, false, false, false, false] (by kernel_rfl) rfl rfl ⟨(blk_cell BK988.out 0).trans rfl, (blk_cell BK988.out 1).trans rfl, (blk_cell BK988.out 2).trans rfl⟩ (fun hHeld => ?_); refine with_tabW mincut_Least.tab4 mincut_Least.bits4 (fun HT_ HW_ => ?_)
 generalize w11.drew = w12 at BK988 HB hHeld ⊢
 refine pure_ (i := 2) (N := some 18) (v := ?_) (a' := ?_) #[false, false, true, false, false, false, false, false] rfl rfl (any_of HT_.out (by kernel_rfl)) (fun _ _ _ h => h) (Or.inl ⟨by rfl, ?_⟩) ?_ ?_
 rotate_left
 ·intro w'
  go_simp
  with_reducible rfl
 rotate_left
 ·simp only [Act.put, List.setIfInBounds_toArray, List.set_cons_zero, List.set_cons_succ, i64_w, i32_w]
  rfl
 refine pure_ (i := 3) (N := some 19) (v := ?_) (a' := ?_) #[false, false, true, true, false, false, false, false] rfl rfl (any_of HT_.out (by kernel_rfl)) (fun _ _ _ h => h) (Or.inl ⟨by rfl, ?_⟩) ?_ ?_
 rotate_left
 ·intro w'
  go_simp
  with_reducible rfl
 rotate_left
 ·simp only [Act.put, List.setIfInBounds_toArray, List.set_cons_zero, List.set_cons_succ, i64_w, i32_w]
  rfl
 refine pure_ (i := 5) (N := some 21) (v := ?_) (a' := ?_) #[false, false, true, true, false, true, false, false] rfl rfl (any_of HT_.out (by kernel_rfl)) (fun _ _ _ h => h) (Or.inl ⟨by rfl, ?_⟩) ?_ ?_
 rotate_left
 ·intro w'
  go_simp
  with_reducible rfl
 rotate_left
 ·simp only [Act.put, List.setIfInBounds_toArray, List.set_cons_zero, List.set_cons_succ, i64_w, i32_w]
  rfl
 refine take_ (i := 0) (N := some 16) (v := ?_) (a' := ?_) #[true, false, true, true, false, true, false, false] rfl rfl (take_ofW HT_.out HW_.out (by kernel_rfl)) (fun _ _ _ h => h) (Or.inl ⟨by rfl, ?_⟩) hHeld ?_ ?_
 rotate_left
 ·rintro w' ⟨s0, s1, s2⟩
  go_simp
  with_reducible rfl
 rotate_left
 ·simp only [Act.put, List.setIfInBounds_toArray, List.set_cons_zero, List.set_cons_succ, i64_w, i32_w]
  rfl
 refine take_ (i := 1) (N := some 17) (v := ?_) (a' := ?_) #[true, true, true, true, false, true, false, false] rfl rfl (take_ofW HT_.out HW_.out (by kernel_rfl)) (fun _ _ _ h => h) (Or.inl ⟨by rfl, ?_⟩) hHeld ?_ ?_
 rotate_left
 ·rintro w' ⟨s0, s1, s2⟩
  go_simp
  with_reducible rfl
 rotate_left
 ·simp only [Act.put, List.setIfInBounds_toArray, List.set_cons_zero, List.set_cons_succ, i64_w, i32_w]
  rfl
 refine one_ (i := 4) (N := some 20) #[true, true, true, true, true, true, false, false] rfl rfl (one_of HT_.out (by kernel_rfl)) (by decide) (fun K hK => ?_)
 refine goes_ Try.func121 (by kernel_rfl) rfl #[.agg #[.int .i64 a0_0, .bool a0_1, .slice A0_2 l0_2.length c0_2], .int .i64 a1, .int .i64 a2] (by rfl) rfl rfl (by (try simp only [List.map_toArray, List.map_cons, List.map_nil]); first | done | rfl | (simp only [List.length_drop, List.length_take]; rfl)) ?_
 with_reducible refine (maxflow_Fill.calls a0_0 a0_1 _ _ l0_2 a1 a2 t990 _ ?side1 ?side2 A6.out).mono ?_
 (case side1 => repeat (first | exact (Kd.C_below HR0_2.out HB.out) | (with_reducible refine Kd.C_alloc ?_ _) | (with_reducible refine Kd.C_drewN ?_ _) | (with_reducible refine Kd.C_drew ?_)))
 (case side2 => exact HC0_2.out)
 rintro e w13 ⟨v991, rfl, ho0, hb⟩
 refine ⟨_, rfl, ?_⟩
 have n0_ := Aside0.mk (Kd.R_lower ho0 (below_size (by repeat (first | (with_reducible first | exact HB.out | apply below_alloc | apply pw_below_drewN | apply below_drew1 | refine below_set ?_ GE988.out) | exact HB.out))))
 have n1_ := Aside0.mk (blk_below (g := gb988) (o := .cells #[.int .i64 a0_0, .bool a0_1, .slice A0_2 l0_2.length c0_2] 24 (0, 0)) (by (with_reducible repeat (first | refine blk_drewN ?_ _ | refine blk_drew ?_ | refine blk_alloc ?_ _)); exact BK988.out) hb)
 have n2_ := Aside0.mk (below_step (by repeat (first | (with_reducible first | exact HB.out | apply below_alloc | apply pw_below_drewN | apply below_drew1 | refine below_set ?_ GE988.out) | exact HB.out)) hb)
 clear BK988
 clear HB
 have HO992 := n0_
 have BK988 := n1_
 have HB := n2_
 clear n0_ n1_ n2_
 (try clear hb)
 (try clear hb2)
 (try clear hk)
 (try clear hi)
 (try clear ho0)
 obtain ⟨Ao14, co14, eo14⟩ := Kd.R_slice HO992.out
 (first | subst eo14 | (injection eo14 with f1_ f2_ f3_; have f4_ := f1_.symm; have f5_ := f3_.symm; clear f1_ f2_ f3_; subst f4_; subst f5_))
 refine hK.out _ _ ⟨(blk_cell BK988.out 0).trans rfl, (blk_cell BK988.out 1).trans rfl, (blk_cell BK988.out 2).trans rfl⟩ (fun hHeld => ?_)
 clear hK K
 refine norm_ (a' := ?_) ?_ ?_
 rotate_left
 ·show Act.put _ (some 20) _ = _
  simp only [Act.put, List.setIfInBounds_toArray, List.set_cons_zero, List.set_cons_succ, i64_w, i32_w]
  rfl
 refine one_ (i := 6) (N := some 22) #[true, true, true, true, true, true, true, false] rfl rfl (one_of HT_.out (by kernel_rfl)) (by decide) (fun K hK => ?_)
 refine goes_ Try.func124 (by kernel_rfl) rfl #[.agg #[.int .i64 a0_0, .bool a0_1, .slice A0_2 l0_2.length c0_2], .slice Ao14 t990.length co14, .int .i64 a1] (by rfl) rfl rfl (by (try simp only [List.map_toArray, List.map_cons, List.map_nil]); first | done | rfl | (simp only [List.length_drop, List.length_take]; rfl)) ?_
 with_reducible refine (mincut_Behind.calls a0_0 a0_1 _ _ l0_2 _ _ t990 a1 t993 _ ?side1 ?side2 ?side3 ?side4 A7.out).mono ?_
 (case side1 => repeat (first | exact (Kd.C_below HR0_2.out HB.out) | (with_reducible refine Kd.C_alloc ?_ _) | (with_reducible refine Kd.C_drewN ?_ _) | (with_reducible refine Kd.C_drew ?_)))
 (case side2 => exact HC0_2.out)
 (case side3 => repeat (first | exact (Kd.R_reads' HO992.out).2.2 | (with_reducible refine Kd.C_alloc ?_ _) | (with_reducible refine Kd.C_drewN ?_ _) | (with_reducible refine Kd.C_drew ?_)))
 (case side4 => exact (Kd.R_reads' HO992.out).2.1)
 rintro e w15 ⟨v994, rfl, ho0, hb⟩
 refine ⟨_, rfl, ?_⟩
 have n0_ := Aside0.mk (Kd.R_below (by (with_reducible repeat (first | apply Kd.R_alloc | apply Kd.R_drewN | apply Kd.R_drew)); exact HO992.out) hb)
 have n1_ := Aside0.mk (Kd.R_lower ho0 (below_size (by repeat (first | (with_reducible first | exact HB.out | apply below_alloc | apply pw_below_drewN | apply below_drew1 | refine below_set ?_ GE988.out) | exact HB.out))))
 have n2_ := Aside0.mk (blk_below (g := gb988) (o := .cells #[.int .i64 a0_0, .bool a0_1, .slice A0_2 l0_2.length c0_2] 24 (0, 0)) (by (with_reducible repeat (first | refine blk_drewN ?_ _ | refine blk_drew ?_ | refine blk_alloc ?_ _)); exact BK988.out) hb)
 have n3_ := Aside0.mk (below_step (by repeat (first | (with_reducible first | exact HB.out | apply below_alloc | apply pw_below_drewN | apply below_drew1 | refine below_set ?_ GE988.out) | exact HB.out)) hb)
 clear HO992
 clear BK988
 clear HB
 have HO992 := n0_
 have HO995 := n1_
 have BK988 := n2_
 have HB := n3_
 clear n0_ n1_ n2_ n3_
 (try clear hb)
 (try clear hb2)
 (try clear hk)
 (try clear hi)
 (try clear ho0)
 refine hK.out _ _ ⟨(blk_cell BK988.out 0).trans rfl, (blk_cell BK988.out 1).trans rfl, (blk_cell BK988.out 2).trans rfl⟩ (fun hHeld => ?_)
 clear hK K
 refine norm_ (a' := ?_) ?_ ?_
 rotate_left
 ·show Act.put _ (some 22) _ = _
  simp only [Act.put, List.setIfInBounds_toArray, List.set_cons_zero, List.set_cons_succ, i64_w, i32_w]
  rfl
 refine pure_ (i := 7) (N := some 6) (v := ?_) (a' := ?_) #[true, true, true, true, true, true, true, true] rfl rfl (any_of HT_.out (by kernel_rfl)) (fun _ _ _ h => h) (Or.inl ⟨by rfl, ?_⟩) ?_ ?_
 rotate_left
 ·intro w'
  go_simp
  with_reducible rfl
 rotate_left
 ·simp only [Act.put, List.setIfInBounds_toArray, List.set_cons_zero, List.set_cons_succ, i64_w, i32_w]
  rfl
 refine done_ (done_of HT_.out (by kernel_rfl)) ?_
 have hcz16_0 : w15.cell? ⟨gb988, 0, none⟩ = some (.int .i64 a0_0) := (blk_cell BK988.out 0).trans rfl
 have hcz16_1 : w15.cell? ⟨gb988, 1, none⟩ = some (.bool a0_1) := (blk_cell BK988.out 1).trans rfl
 have hcz16_2 : w15.cell? ⟨gb988, 2, none⟩ = some (.slice A0_2 l0_2.length c0_2) := (blk_cell BK988.out 2).trans rfl
 have hfz16_0 := blk_frozen BK988.out 0
 have hfz16_1 := blk_frozen BK988.out 1
 have hfz16_2 := blk_frozen BK988.out 2
 obtain ⟨Ao17, co17, eo17⟩ := Kd.R_slice HO995.out
 subst eo17
 try go_wp2_with (first | ((with_reducible refine gate_callee (f := 125) rfl ?_); refine goesL_ (some 26) rfl rfl Try.func125 (by kernel_rfl) rfl #[.agg #[.int .i64 a0_0, .bool a0_1, .slice A0_2 l0_2.length c0_2], .slice Ao17 t993.length co17] rfl (by (try simp only [List.map_toArray, List.map_cons, List.map_nil]); first | done | rfl | (simp only [List.length_drop, List.length_take]; rfl)) ?_; (with_reducible refine (mincut_takes.calls k a0_0 a0_1 _ _ l0_2 _ _ t993 t996 _ ?side1 ?side2 ?side3 ?side4 A8.out).mono ?_); (case side1 => repeat (first | exact (Kd.C_below HR0_2.out HB.out) | (with_reducible refine Kd.C_alloc ?_ _) | (with_reducible refine Kd.C_drewN ?_ _) | (with_reducible refine Kd.C_drew ?_))); (case side2 => exact HC0_2.out); (case side3 => repeat (first | exact (Kd.R_reads' HO995.out).2.2 | (with_reducible refine Kd.C_alloc ?_ _) | (with_reducible refine Kd.C_drewN ?_ _) | (with_reducible refine Kd.C_drew ?_))); (case side4 => exact (Kd.R_reads' HO995.out).2.1); rintro e w18 ⟨rfl, hb⟩; refine ⟨_, rfl, ?_⟩; have n0_ := Aside0.mk (Kd.R_below (by (with_reducible repeat (first | apply Kd.R_alloc | apply Kd.R_drewN | apply Kd.R_drew)); exact HO992.out) hb); have n1_ := Aside0.mk (Kd.R_below (by (with_reducible repeat (first | apply Kd.R_alloc | apply Kd.R_drewN | apply Kd.R_drew)); exact HO995.out) hb); have n2_ := Aside0.mk (blk_below (g := gb988) (o := .cells #[.int .i64 a0_0, .bool a0_1, .slice A0_2 l0_2.length c0_2] 24 (0, 0)) (by (with_reducible repeat (first | refine blk_drewN ?_ _ | refine blk_drew ?_ | refine blk_alloc ?_ _)); exact BK988.out) hb); have n3_ := Aside0.mk (below_step (by repeat (first | (with_reducible first | exact HB.out | apply below_alloc | apply pw_below_drewN | apply below_drew1 | refine below_set ?_ GE988.out) | exact HB.out)) hb); clear HO992; clear HO995; clear BK988; clear HB; have HO992 := n0_; have HO995 := n1_; have BK988 := n2_; have HB := n3_; clear n0_ n1_ n2_ n3_; (try clear hb); (try clear hb2); (try clear hk); (try clear hi)))
 go_ret3
 exact ⟨_, by first | rfl | (simp [errW_none, errW_some] <;> rfl) | (simp [*, errW_none, errW_some] <;> rfl), by (with_reducible repeat (first | apply Kd.R_alloc | apply Kd.R_drewN | apply Kd.R_drew)); exact HO995.out, by repeat (first | (with_reducible first | exact HB.out | apply below_alloc | apply pw_below_drewN | apply below_drew1 | refine below_set ?_ GE988.out) | exact HB.out)⟩
end Go.Proofs.Ytkcpanpdipmmmaa.P
namespace Go.Proofs.Ytkcpanpdipmmmaa.P
open Go.RowKit Go.Proofs.YtkcpanpdipmmmaaW.PrintWords Go.Proofs.YtkcpanpdipmmmaaW.PrintLast Go.Proofs.YtkcpanpdipmmmaaW.PrintMore
attribute [local go_sem] max2_int min2_int max_two min_two max_three min_three max_four min_four
def ebbtidelaw10_awake.f (k : Nat)  : Option (Bool) := (some (([(⟨0, 1, 3, 0⟩ : S74), (⟨1, 2, 1, 0⟩ : S74)] : List (S74)) : List (S74))).bind fun y1025 => ((mincut_Least.f k 3 false y1025 0 2).bind fun bt1029 => ((mincut_Capacity.f k 3 false y1025 (([true, false, false] : List Bool))).bind fun bt1037 => (if bt1029.2.2 = 0 then (if bt1029.2.1 = 1 then ((ebbtideref10_Same.f k bt1029.1 (([true, true, false] : List Bool))).bind fun t1042 => (if t1042 = true then (if bt1037.2 = 0 then (some (bt1037.1 == 3)) else (some false)) else (some false))) else (some false)) else (some false))))
set_option maxHeartbeats 8000000 in
set_option maxRecDepth 100000 in
theorem ebbtidelaw10_awake.calls (k : Nat)  (r : Bool) (w : World) (h : ebbtidelaw10_awake.f k  = some r) (hrT_ : r = true := by first | rfl | exact Aside0.out (by assumption)) :
  Calls Try.prog 81 #[] w fun e w' => e = .returned (.bool r) ∧ Below w.heap.size w w' := by
 have HRT := Aside0.mk hrT_
 clear hrT_
 have hu74 := Try.underlying74
 have hu24 := Try.underlying24
 have HB := Aside0.mk (Below.refl w.heap.size w)
 have H : ((some (([(⟨0, 1, 3, 0⟩ : S74), (⟨1, 2, 1, 0⟩ : S74)] : List (S74)) : List (S74))).bind fun y1025 => ((mincut_Least.f k 3 false y1025 0 2).bind fun bt1029 => ((mincut_Capacity.f k 3 false y1025 (([true, false, false] : List Bool))).bind fun bt1037 => (if bt1029.2.2 = 0 then (if bt1029.2.1 = 1 then ((ebbtideref10_Same.f k bt1029.1 (([true, true, false] : List Bool))).bind fun t1042 => (if t1042 = true then (if bt1037.2 = 0 then (some (bt1037.1 == 3)) else (some false)) else (some false))) else (some false)) else (some false))))) = some r := h
 clear h
 obtain ⟨y1025, hy1025⟩ : ∃ y_ : List (S74), y_ = (([(⟨0, 1, 3, 0⟩ : S74), (⟨1, 2, 1, 0⟩ : S74)] : List (S74))) := ⟨_, rfl⟩
 replace H : ((mincut_Least.f k 3 false y1025 0 2).bind fun bt1029 => ((mincut_Capacity.f k 3 false y1025 (([true, false, false] : List Bool))).bind fun bt1037 => (if bt1029.2.2 = 0 then (if bt1029.2.1 = 1 then ((ebbtideref10_Same.f k bt1029.1 (([true, true, false] : List Bool))).bind fun t1042 => (if t1042 = true then (if bt1037.2 = 0 then (some (bt1037.1 == 3)) else (some false)) else (some false))) else (some false)) else (some false)))) = some r := by first | (rw [hy1025]; with_reducible exact H) | (have H2_ := (Option.bind_some _ _).symm.trans H; rw [hy1025]; with_reducible exact H2_) | (have H2_ := (Option.bind_some _ _).symm.trans H; with_reducible exact H2_) | with_reducible exact H | (rw [hy1025]; exact H) | exact H
 have Ny1025 := Aside0.mk hy1025
 clear hy1025
 replace H := Option.bind_eq_some_iff.mp H
 obtain ⟨⟨t1029, t1032, t1033⟩, A10, H⟩ := H
 replace H : ((mincut_Capacity.f k 3 false y1025 (([true, false, false] : List Bool))).bind fun bt1037 => (if t1033 = 0 then (if t1032 = 1 then ((ebbtideref10_Same.f k t1029 (([true, true, false] : List Bool))).bind fun t1042 => (if t1042 = true then (if bt1037.2 = 0 then (some (bt1037.1 == 3)) else (some false)) else (some false))) else (some false)) else (some false))) = some r := H
 have A1 := Aside0.mk A10
 clear A10
 obtain ⟨y1034, hy1034⟩ : ∃ y_ : List Bool, y_ = (([true, false, false] : List Bool)) := ⟨_, rfl⟩
 replace H : ((mincut_Capacity.f k 3 false y1025 y1034).bind fun bt1037 => (if t1033 = 0 then (if t1032 = 1 then ((ebbtideref10_Same.f k t1029 (([true, true, false] : List Bool))).bind fun t1042 => (if t1042 = true then (if bt1037.2 = 0 then (some (bt1037.1 == 3)) else (some false)) else (some false))) else (some false)) else (some false))) = some r := by first | (rw [hy1034]; with_reducible exact H) | (have H2_ := (Option.bind_some _ _).symm.trans H; rw [hy1034]; with_reducible exact H2_) | (have H2_ := (Option.bind_some _ _).symm.trans H; with_reducible exact H2_) | with_reducible exact H | (rw [hy1034]; exact H) | exact H
 have Ny1034 := Aside0.mk hy1034
 clear hy1034
 replace H := Option.bind_eq_some_iff.mp H
 obtain ⟨⟨t1037, t1038⟩, A20, H⟩ := H
 replace H : (if t1033 = 0 then (if t1032 = 1 then ((ebbtideref10_Same.f k t1029 (([true, true, false] : List Bool))).bind fun t1042 => (if t1042 = true then (if t1038 = 0 then (some (t1037 == 3)) else (some false)) else (some false))) else (some false)) else (some false)) = some r := H
 have A2 := Aside0.mk A20
 clear A20
 by_cases c3 : t1033 = 0
 rotate_left
 ·rw [if_neg c3] at H
  exact absurd (Option.some.inj H) (by rw [HRT.out]; decide)
 rw [if_pos c3] at H
 have c3b0 : (t1033 == 0) = true := beq_iff_eq.mpr c3
 have c3b1 : (t1033 != 0) = false := bne_eq_false_iff_eq.mpr c3
 clear c3
 by_cases c4 : t1032 = 1
 rotate_left
 ·rw [if_neg c4] at H
  exact absurd (Option.some.inj H) (by rw [HRT.out]; decide)
 rw [if_pos c4] at H
 have c4b0 : (t1032 == 1) = true := beq_iff_eq.mpr c4
 have c4b1 : (t1032 != 1) = false := bne_eq_false_iff_eq.mpr c4
 clear c4
 obtain ⟨y1039, hy1039⟩ : ∃ y_ : List Bool, y_ = (([true, true, false] : List Bool)) := ⟨_, rfl⟩
 replace H : ((ebbtideref10_Same.f k t1029 y1039).bind fun t1042 => (if t1042 = true then (if t1038 = 0 then (some (t1037 == 3)) else (some false)) else (some false))) = some r := by first | (rw [hy1039]; with_reducible exact H) | (have H2_ := (Option.bind_some _ _).symm.trans H; rw [hy1039]; with_reducible exact H2_) | (have H2_ := (Option.bind_some _ _).symm.trans H; with_reducible exact H2_) | with_reducible exact H | (rw [hy1039]; exact H) | exact H
 have Ny1039 := Aside0.mk hy1039
 clear hy1039
 replace H := Option.bind_eq_some_iff.mp H
 obtain ⟨t1042, A50, H⟩ := H
 replace H : (if t1042 = true then (if t1038 = 0 then (some (t1037 == 3)) else (some false)) else (some false)) = some r := H
 have A5 := Aside0.mk A50
 clear A50
 by_cases c6 : t1042 = true
 rotate_left
 ·replace c6 := Bool.eq_false_iff.mpr c6
  subst c6
  have H1 : (some false) = some r := by rw [if_neg (show ¬ (false = true) by decide)] at H; exact H
  exact absurd (Option.some.inj H1) (by rw [HRT.out]; decide)
 subst c6
 have H1 : (if t1038 = 0 then (some (t1037 == 3)) else (some false)) = some r := by first | (rw [if_pos rfl] at H; exact H) | (rw [if_pos trivial] at H; exact H)
 clear H
 have H := H1
 clear H1
 by_cases c7 : t1038 = 0
 rotate_left
 ·rw [if_neg c7] at H
  exact absurd (Option.some.inj H) (by rw [HRT.out]; decide)
 rw [if_pos c7] at H
 have c7b0 : (t1038 == 0) = true := beq_iff_eq.mpr c7
 have c7b1 : (t1038 != 0) = false := bne_eq_false_iff_eq.mpr c7
 clear c7
 obtain rfl := Option.some.inj H
 go_enter Try.func81, Try.ntmps81
 go_wp2_with (first | ((with_reducible refine gate_dst (N := 9) rfl ?_); (try (refine gate_guard (by rfl) ?_; dsimp only)); refine Kd.R_lit k74 _ 74 ?hg (N := 9) ?hd (xs := ([(⟨0, 1, 3, 0⟩ : S74), (⟨1, 2, 1, 0⟩ : S74)] : List (S74))) (inner := [.int .i64 0, .int .i64 1, .int .i64 3, .int .i64 0, .int .i64 1, .int .i64 2, .int .i64 1, .int .i64 0]) (ok := fun _ => True) (okp := fun _ => True) ?hr ?hp (fun _ hk => hk) trivial (Below.refl _ _) (Nat.le_refl _) (by simp) ?_; (case hd => rfl); (case hg => rfl); (case hr => first | (go_simp; done) | (go_simp; rfl)); (case hp => exact (Reps.c4 (show Kd.M k74 _ _ _ (⟨0, 1, 3, 0⟩ : S74) [.int .i64 0, .int .i64 1, .int .i64 3, .int .i64 0] from (k74_mkM _ _ _ (⟨0, 1, 3, 0⟩ : S74) )) (Reps.c4 (show Kd.M k74 _ _ _ (⟨1, 2, 1, 0⟩ : S74) [.int .i64 1, .int .i64 2, .int .i64 1, .int .i64 0] from (k74_mkM _ _ _ (⟨1, 2, 1, 0⟩ : S74) )) (Reps.none _ _)))); intro v1026 w8 ho9 hb hg_ hnew_; clear hg_ hnew_; (first | rw [← Ny1025.out] at ho9 | (simp only [Int.reduceToNat] at ho9; rw [← Ny1025.out] at ho9)); have n0_ := Aside0.mk (Kd.R_lower ho9 (below_size (by repeat (first | (with_reducible first | exact HB.out | apply below_alloc | apply pw_below_drewN | apply below_drew1) | exact HB.out)))); have n1_ := Aside0.mk (below_step (by repeat (first | (with_reducible first | exact HB.out | apply below_alloc | apply pw_below_drewN | apply below_drew1) | exact HB.out)) hb); clear HB; have HO1027 := n0_; have HB := n1_; clear n0_ n1_; clear hb ho9; obtain ⟨Ao10, co10, eo10⟩ := Kd.R_slice HO1027.out; subst eo10) | ((with_reducible refine gate_dst (N := 1) rfl ?_); (try (refine gate_guard (by rfl) ?_; dsimp only)); refine box_event ?hg (N := 1) ?hd (cs := #[.int .i64 0, .bool false, .slice none 0 0]) (t := 24) ?hr ?_; (case hd => rfl); (case hg => rfl); (case hr => first | (go_simp; done) | (go_simp; rfl)); intro gb1028 hg w11 hbox hb; have n0_ := Aside0.mk (Kd.R_below (by (with_reducible repeat (first | apply Kd.R_alloc | apply Kd.R_drewN | apply Kd.R_drew)); exact HO1027.out) hb); have n1_ := Aside0.mk (below_step (by repeat (first | (with_reducible first | exact HB.out | apply below_alloc | apply pw_below_drewN | apply below_drew1) | exact HB.out)) hb); have n2_ := Aside0.mk (hbox); have n3_ := Aside0.mk ((by rw [hg]; exact (below_size (by repeat (first | (with_reducible first | exact HB.out | apply below_alloc | apply pw_below_drewN | apply below_drew1) | exact HB.out))) : w.heap.size ≤ gb1028)); have n4_ := Aside0.mk ((by rw [hg]; exact (below_size (by repeat (first | (with_reducible first | exact HB.out | apply below_alloc | apply pw_below_drewN | apply below_drew1) | exact HB.out))) : w.heap.size ≤ gb1028)); clear HO1027; clear HB; have HO1027 := n0_; have HB := n1_; have BK1028 := n2_; have GW1028 := n3_; have GE1028 := n4_; clear n0_ n1_ n2_ n3_ n4_; clear hb hbox hg; have hcz12_0 : w11.cell? ⟨gb1028, 0, none⟩ = some (.int .i64 0) := (blk_cell BK1028.out 0).trans rfl; have hcz12_1 : w11.cell? ⟨gb1028, 1, none⟩ = some (.bool false) := (blk_cell BK1028.out 1).trans rfl; have hcz12_2 : w11.cell? ⟨gb1028, 2, none⟩ = some (.slice none 0 0) := (blk_cell BK1028.out 2).trans rfl; have hfz12_0 := blk_frozen BK1028.out 0; have hfz12_1 := blk_frozen BK1028.out 1; have hfz12_2 := blk_frozen BK1028.out 2) | ((with_reducible refine gate_callee (f := 79) rfl ?_); refine goesL_ (some 13) rfl rfl Try.func79 (by kernel_rfl) rfl #[.agg #[.int .i64 3, .bool false, .slice Ao10 y1025.length co10], .int .i64 0, .int .i64 2] rfl (by (try simp only [List.map_toArray, List.map_cons, List.map_nil]); first | done | rfl | (simp only [List.length_drop, List.length_take]; rfl)) ?_; (with_reducible refine (mincut_Least.calls k 3 false _ _ y1025 0 2 t1029 t1032 t1033 _ ?side1 ?side2 A1.out).mono ?_); (case side1 => refine (Kd.R_reads' (e := 74) (base := w.heap.size) (ok := fun k_ => True) (n := y1025.length) (c := co10) ?_).2.2; exact (by (with_reducible repeat (first | apply Kd.R_alloc | apply Kd.R_drewN | apply Kd.R_drew)); exact (Kd.R_mono (Kd.R_far (p := ⟨gb1028, 2, none⟩) (Kd.R_far (p := ⟨gb1028, 1, none⟩) (Kd.R_far (p := ⟨gb1028, 0, none⟩) (Kd.R_types HO1027.out BK1028.out (by decide)) (fun _ hk => hk.2) (.int .i64 3)) (fun _ hk => hk.2) (.bool false)) (fun _ hk => hk.2) (.slice Ao10 y1025.length co10)) (fun _ h_ => h_.1)))); (case side2 => exact (Kd.R_reads' HO1027.out).2.1); rintro e w13 ⟨v1030, rfl, ho0, hb⟩; refine ⟨_, rfl, ?_⟩; have n0_ := Aside0.mk (Kd.R_below (by (with_reducible repeat (first | apply Kd.R_alloc | apply Kd.R_drewN | apply Kd.R_drew)); exact (Kd.R_mono (Kd.R_far (p := ⟨gb1028, 2, none⟩) (Kd.R_far (p := ⟨gb1028, 1, none⟩) (Kd.R_far (p := ⟨gb1028, 0, none⟩) (Kd.R_types HO1027.out BK1028.out (by decide)) (fun _ hk => hk.2) (.int .i64 3)) (fun _ hk => hk.2) (.bool false)) (fun _ hk => hk.2) (.slice Ao10 y1025.length co10)) (fun _ h_ => h_.1))) hb); have n1_ := Aside0.mk (Kd.R_lower ho0 (below_size (by repeat (first | (with_reducible first | exact HB.out | apply below_alloc | apply pw_below_drewN | apply below_drew1 | refine below_set ?_ GE1028.out) | exact HB.out)))); have n2_ := Aside0.mk (blk_below (g := gb1028) (o := .cells #[.int .i64 3, .bool false, .slice Ao10 y1025.length co10] 24 (0, 0)) (by (with_reducible repeat (first | refine blk_drewN ?_ _ | refine blk_drew ?_ | refine blk_alloc ?_ _)); refine blk_put (cs := #[.int .i64 3, .bool false, .slice none 0 0]) ?_ 2 _ rfl; (with_reducible repeat (first | refine blk_drewN ?_ _ | refine blk_drew ?_ | refine blk_alloc ?_ _)); refine blk_put (cs := #[.int .i64 3, .bool false, .slice none 0 0]) ?_ 1 _ rfl; (with_reducible repeat (first | refine blk_drewN ?_ _ | refine blk_drew ?_ | refine blk_alloc ?_ _)); refine blk_put (cs := #[.int .i64 0, .bool false, .slice none 0 0]) ?_ 0 _ rfl; (with_reducible repeat (first | refine blk_drewN ?_ _ | refine blk_drew ?_ | refine blk_alloc ?_ _)); exact BK1028.out) hb); have n3_ := Aside0.mk (below_step (by repeat (first | (with_reducible first | exact HB.out | apply below_alloc | apply pw_below_drewN | apply below_drew1 | refine below_set ?_ GE1028.out) | exact HB.out)) hb); clear HO1027; clear BK1028; clear HB; have HO1027 := n0_; have HO1031 := n1_; have BK1028 := n2_; have HB := n3_; clear n0_ n1_ n2_ n3_; (try clear hb); (try clear hb2); (try clear hk); (try clear hi); (try clear ho0); have hcz14_0 : w13.cell? ⟨gb1028, 0, none⟩ = some (.int .i64 3) := (blk_cell BK1028.out 0).trans rfl; have hcz14_1 : w13.cell? ⟨gb1028, 1, none⟩ = some (.bool false) := (blk_cell BK1028.out 1).trans rfl; have hcz14_2 : w13.cell? ⟨gb1028, 2, none⟩ = some (.slice Ao10 y1025.length co10) := (blk_cell BK1028.out 2).trans rfl; have hfz14_0 := blk_frozen BK1028.out 0; have hfz14_1 := blk_frozen BK1028.out 1; have hfz14_2 := blk_frozen BK1028.out 2) | ((with_reducible refine gate_dst (N := 19) rfl ?_); (try (refine gate_guard (by rfl) ?_; dsimp only)); refine Kd.R_lit Kd.bool _ 4 ?hg (N := 19) ?hd (xs := ([true, false, false] : List Bool)) (inner := [.bool true, .bool false, .bool false]) (ok := fun _ => True) (okp := fun _ => True) ?hr ?hp (fun _ hk => hk) trivial (Below.refl _ _) (Nat.le_refl _) (by simp) ?_; (case hd => rfl); (case hg => rfl); (case hr => first | (go_simp; done) | (go_simp; rfl)); (case hp => exact (Reps.one (show Kd.M Kd.bool _ _ _ true [.bool true] from rfl) (Reps.one (show Kd.M Kd.bool _ _ _ false [.bool false] from rfl) (Reps.one (show Kd.M Kd.bool _ _ _ false [.bool false] from rfl) (Reps.none _ _))))); intro v1035 w15 ho16 hb hg_ hnew_; clear hg_ hnew_; (first | rw [← Ny1034.out] at ho16 | (simp only [Int.reduceToNat] at ho16; rw [← Ny1034.out] at ho16)); have n0_ := Aside0.mk (Kd.R_below (by (with_reducible repeat (first | apply Kd.R_alloc | apply Kd.R_drewN | apply Kd.R_drew)); exact HO1027.out) hb); have n1_ := Aside0.mk (Kd.R_elder' (by (with_reducible repeat (first | apply Kd.R_alloc | apply Kd.R_drewN | apply Kd.R_drew)); exact HO1031.out) (Kd.R_base ho16) hb); have n2_ := Aside0.mk (Kd.R_lower (Kd.R_new' ho16 (Kd.R_lt (by (with_reducible repeat (first | apply Kd.R_alloc | apply Kd.R_drewN | apply Kd.R_drew)); exact HO1031.out))) (below_size (by repeat (first | (with_reducible first | exact HB.out | apply below_alloc | apply pw_below_drewN | apply below_drew1 | refine below_set ?_ GE1028.out) | exact HB.out)))); have n3_ := Aside0.mk (blk_below (g := gb1028) (o := .cells #[.int .i64 3, .bool false, .slice Ao10 y1025.length co10] 24 (0, 0)) (by (with_reducible repeat (first | refine blk_drewN ?_ _ | refine blk_drew ?_ | refine blk_alloc ?_ _)); exact BK1028.out) hb); have n4_ := Aside0.mk (below_step (by repeat (first | (with_reducible first | exact HB.out | apply below_alloc | apply pw_below_drewN | apply below_drew1 | refine below_set ?_ GE1028.out) | exact HB.out)) hb); clear HO1027; clear HO1031; clear BK1028; clear HB; have HO1027 := n0_; have HO1031 := n1_; have HO1036 := n2_; have BK1028 := n3_; have HB := n4_; clear n0_ n1_ n2_ n3_ n4_; clear hb ho16; obtain ⟨Ao17, co17, eo17⟩ := Kd.R_slice HO1036.out; subst eo17) | ((with_reducible refine gate_callee (f := 82) rfl ?_); refine goesL_ (some 20) rfl rfl Try.func82 (by kernel_rfl) rfl #[.agg #[.int .i64 3, .bool false, .slice Ao10 y1025.length co10], .slice Ao17 y1034.length co17] rfl (by (try simp only [List.map_toArray, List.map_cons, List.map_nil]); first | done | rfl | (simp only [List.length_drop, List.length_take]; rfl)) ?_; (with_reducible refine (mincut_Capacity.calls k 3 false _ _ y1025 _ _ y1034 t1037 t1038 _ ?side1 ?side2 ?side3 ?side4 A2.out).mono ?_); (case side1 => repeat (first | exact (Kd.R_reads' HO1027.out).2.2 | (with_reducible refine Kd.C_alloc ?_ _) | (with_reducible refine Kd.C_drewN ?_ _) | (with_reducible refine Kd.C_drew ?_))); (case side2 => exact (Kd.R_reads' HO1027.out).2.1); (case side3 => repeat (first | exact (Kd.R_reads' HO1036.out).2.2 | (with_reducible refine Kd.C_alloc ?_ _) | (with_reducible refine Kd.C_drewN ?_ _) | (with_reducible refine Kd.C_drew ?_))); (case side4 => exact (Kd.R_reads' HO1036.out).2.1); rintro e w18 ⟨rfl, hb⟩; refine ⟨_, rfl, ?_⟩; have n0_ := Aside0.mk (Kd.R_below (by (with_reducible repeat (first | apply Kd.R_alloc | apply Kd.R_drewN | apply Kd.R_drew)); exact HO1027.out) hb); have n1_ := Aside0.mk (Kd.R_below (by (with_reducible repeat (first | apply Kd.R_alloc | apply Kd.R_drewN | apply Kd.R_drew)); exact HO1031.out) hb); have n2_ := Aside0.mk (Kd.R_below (by (with_reducible repeat (first | apply Kd.R_alloc | apply Kd.R_drewN | apply Kd.R_drew)); exact HO1036.out) hb); have n3_ := Aside0.mk (blk_below (g := gb1028) (o := .cells #[.int .i64 3, .bool false, .slice Ao10 y1025.length co10] 24 (0, 0)) (by (with_reducible repeat (first | refine blk_drewN ?_ _ | refine blk_drew ?_ | refine blk_alloc ?_ _)); exact BK1028.out) hb); have n4_ := Aside0.mk (below_step (by repeat (first | (with_reducible first | exact HB.out | apply below_alloc | apply pw_below_drewN | apply below_drew1 | refine below_set ?_ GE1028.out) | exact HB.out)) hb); clear HO1027; clear HO1031; clear HO1036; clear BK1028; clear HB; have HO1027 := n0_; have HO1031 := n1_; have HO1036 := n2_; have BK1028 := n3_; have HB := n4_; clear n0_ n1_ n2_ n3_ n4_; (try clear hb); (try clear hb2); (try clear hk); (try clear hi)) | ((with_reducible refine gate_dst (N := 31) rfl ?_); (try (refine gate_guard (by rfl) ?_; dsimp only)); refine Kd.R_lit Kd.bool _ 4 ?hg (N := 31) ?hd (xs := ([true, true, false] : List Bool)) (inner := [.bool true, .bool true, .bool false]) (ok := fun _ => True) (okp := fun _ => True) ?hr ?hp (fun _ hk => hk) trivial (Below.refl _ _) (Nat.le_refl _) (by simp) ?_; (case hd => rfl); (case hg => rfl); (case hr => first | (go_simp; done) | (go_simp; rfl)); (case hp => exact (Reps.one (show Kd.M Kd.bool _ _ _ true [.bool true] from rfl) (Reps.one (show Kd.M Kd.bool _ _ _ true [.bool true] from rfl) (Reps.one (show Kd.M Kd.bool _ _ _ false [.bool false] from rfl) (Reps.none _ _))))); intro v1040 w19 ho20 hb hg_ hnew_; clear hg_ hnew_; (first | rw [← Ny1039.out] at ho20 | (simp only [Int.reduceToNat] at ho20; rw [← Ny1039.out] at ho20)); have n0_ := Aside0.mk (Kd.R_below (by (with_reducible repeat (first | apply Kd.R_alloc | apply Kd.R_drewN | apply Kd.R_drew)); exact HO1027.out) hb); have n1_ := Aside0.mk (Kd.R_elder' (by (with_reducible repeat (first | apply Kd.R_alloc | apply Kd.R_drewN | apply Kd.R_drew)); exact HO1031.out) (Kd.R_base ho20) hb); have n2_ := Aside0.mk (Kd.R_elder' (by (with_reducible repeat (first | apply Kd.R_alloc | apply Kd.R_drewN | apply Kd.R_drew)); exact HO1036.out) (Kd.R_base ho20) hb); have n3_ := Aside0.mk (Kd.R_lower (Kd.R_new' (Kd.R_new' ho20 (Kd.R_lt (by (with_reducible repeat (first | apply Kd.R_alloc | apply Kd.R_drewN | apply Kd.R_drew)); exact HO1031.out))) (Kd.R_lt (by (with_reducible repeat (first | apply Kd.R_alloc | apply Kd.R_drewN | apply Kd.R_drew)); exact HO1036.out))) (below_size (by repeat (first | (with_reducible first | exact HB.out | apply below_alloc | apply pw_below_drewN | apply below_drew1 | refine below_set ?_ GE1028.out) | exact HB.out)))); have n4_ := Aside0.mk (blk_below (g := gb1028) (o := .cells #[.int .i64 3, .bool false, .slice Ao10 y1025.length co10] 24 (0, 0)) (by (with_reducible repeat (first | refine blk_drewN ?_ _ | refine blk_drew ?_ | refine blk_alloc ?_ _)); exact BK1028.out) hb); have n5_ := Aside0.mk (below_step (by repeat (first | (with_reducible first | exact HB.out | apply below_alloc | apply pw_below_drewN | apply below_drew1 | refine below_set ?_ GE1028.out) | exact HB.out)) hb); clear HO1027; clear HO1031; clear HO1036; clear BK1028; clear HB; have HO1027 := n0_; have HO1031 := n1_; have HO1036 := n2_; have HO1041 := n3_; have BK1028 := n4_; have HB := n5_; clear n0_ n1_ n2_ n3_ n4_ n5_; clear hb ho20; obtain ⟨Ao21, co21, eo21⟩ := Kd.R_slice HO1031.out; subst eo21; obtain ⟨Ao22, co22, eo22⟩ := Kd.R_slice HO1041.out; subst eo22) | (go_at_call 42; (with_reducible refine (ebbtideref10_Same.calls k _ _ t1029 _ _ y1039 true _ ?side1 ?side2 ?side3 ?side4 A5.out).mono ?_); (case side1 => repeat (first | exact (Kd.R_reads' HO1031.out).2.2 | (with_reducible refine Kd.C_alloc ?_ _) | (with_reducible refine Kd.C_drewN ?_ _) | (with_reducible refine Kd.C_drew ?_))); (case side2 => exact (Kd.R_reads' HO1031.out).2.1); (case side3 => repeat (first | exact (Kd.R_reads' HO1041.out).2.2 | (with_reducible refine Kd.C_alloc ?_ _) | (with_reducible refine Kd.C_drewN ?_ _) | (with_reducible refine Kd.C_drew ?_))); (case side4 => exact (Kd.R_reads' HO1041.out).2.1); rintro e w' ⟨rfl, ⟨nd, rfl⟩⟩))
 go_ret
 exact ⟨by first | rfl | (simp [errW_none, errW_some] <;> rfl) | (simp [*, errW_none, errW_some] <;> rfl), by repeat (first | (with_reducible first | exact HB.out | apply below_alloc | apply pw_below_drewN | apply below_drew1 | refine below_set ?_ GE1028.out) | exact HB.out)⟩
end Go.Proofs.Ytkcpanpdipmmmaa.P
namespace Go.Proofs.Ytkcpanpdipmmmaa.P
open Go.RowKit Go.Proofs.YtkcpanpdipmmmaaW.PrintWords Go.Proofs.YtkcpanpdipmmmaaW.PrintLast Go.Proofs.YtkcpanpdipmmmaaW.PrintMore
attribute [local go_sem] max2_int min2_int max_two min_two max_three min_three max_four min_four
mutual
def ebbtidelaw10_MincutSums.j0 : Nat → List Bool → List Bool → Bool → Int → Int → Bool → Int → Bool → List (S74) → Option (Bool)
 | 0, _, _, _, _, _, _, _, _, _ => none
 | k + 1, x1, x2, x7, x8, x10, x39, x1053000, x1053001, x1053002 => if x39 = true then (some x7) else (ebbtidelaw10_MincutSums.l0 k x1 x2 x7 x8 x10 ([] : List Bool) ([] : List Bool) 0 x1053000 x1053001 x1053002)
def ebbtidelaw10_MincutSums.l0 : Nat → List Bool → List Bool → Bool → Int → Int → List Bool → List Bool → Int → Int → Bool → List (S74) → Option (Bool)
 | 0, _, _, _, _, _, _, _, _, _, _, _ => none
 | k + 1, x1, x2, x7, x8, x10, x12, x13, x14, x1053000, x1053001, x1053002 => if x14 < (x1.length : Int) then (if 0 ≤ x14 then (if rdOf false x1 x14 = true then (if x14 < (x2.length : Int) then (if x12.length < 140737488355328 then (if x13.length < 140737488355328 then (ebbtidelaw10_MincutSums.l0 k x1 x2 x7 x8 x10 (x12 ++ [rdOf false x2 x14]) (x13 ++ [true]) (wrap64 (x14 + 1)) x1053000 x1053001 x1053002) else (none)) else (none)) else (none)) else (if x12.length < 140737488355328 then (if x14 < (x2.length : Int) then (if x13.length < 140737488355328 then (ebbtidelaw10_MincutSums.l0 k x1 x2 x7 x8 x10 (x12 ++ [false]) (x13 ++ [rdOf false x2 x14]) (wrap64 (x14 + 1)) x1053000 x1053001 x1053002) else (none)) else (none)) else (none))) else (none)) else ((mincut_Capacity.f k x1053000 x1053001 x1053002 x12).bind fun bt1075 => ((mincut_Capacity.f k x1053000 x1053001 x1053002 x13).bind fun bt1077 => (if x7 = true then (if bt1075.2 = 0 then (if bt1077.2 = 0 then (some (decide ((wrap64 (bt1075.1 + bt1077.1)) ≤ (wrap64 (x8 + x10))))) else (some false)) else (some false)) else (some false))))
end
def ebbtidelaw10_MincutSums.f (k : Nat) (a0_0 : Int) (a0_1 : Bool) (l0_2 : List (S74)) (l1 : List Bool) (l2 : List Bool) : Option (Bool) := (ebbtidelaw10_awake.f k).bind fun t1053 => (if t1053 = true then ((mincut_Capacity.f k a0_0 a0_1 l0_2 l1).bind fun bt1054 => ((mincut_Capacity.f k a0_0 a0_1 l0_2 l2).bind fun bt1056 => (if bt1054.2 = 0 then (ebbtidelaw10_MincutSums.j0 k l1 l2 t1053 bt1054.1 bt1056.1 (bt1056.2 != 0) a0_0 a0_1 l0_2) else (ebbtidelaw10_MincutSums.j0 k l1 l2 t1053 bt1054.1 bt1056.1 true a0_0 a0_1 l0_2)))) else (some false))
set_option maxHeartbeats 8000000 in
set_option maxRecDepth 100000 in
theorem ebbtidelaw10_MincutSums.calls (k : Nat) (a0_0 : Int) (a0_1 : Bool) (A0_2 : Option Addr) (c0_2 : Nat) (l0_2 : List (S74)) (A1 : Option Addr) (c1 : Nat) (l1 : List Bool) (A2 : Option Addr) (c2 : Nat) (l2 : List Bool) (r : Bool) (w : World) (hr0_2 : Kd.C k74 w A0_2 l0_2.length l0_2) (hc0_2 : l0_2.length ≤ c0_2) (hr1 : Kd.C Kd.bool w A1 l1.length l1) (hc1 : l1.length ≤ c1) (hr2 : Kd.C Kd.bool w A2 l2.length l2) (hc2 : l2.length ≤ c2) (h : ebbtidelaw10_MincutSums.f k a0_0 a0_1 l0_2 l1 l2 = some r) (hrT_ : r = true := by first | rfl | exact Aside0.out (by assumption)) :
  Calls Try.prog 27 #[.agg #[.int .i64 a0_0, .bool a0_1, .slice A0_2 l0_2.length c0_2], .slice A1 l1.length c1, .slice A2 l2.length c2] w fun e w' => e = .returned (.bool r) ∧ Below w.heap.size w w' := by
 have HRT := Aside0.mk hrT_
 clear hrT_
 have hu24 := Try.underlying24
 have HR0_2 := Aside0.mk hr0_2
 have HC0_2 := Aside0.mk hc0_2
 clear hr0_2 hc0_2
 have HR1 := Aside0.mk hr1
 have HC1 := Aside0.mk hc1
 clear hr1 hc1
 have HR2 := Aside0.mk hr2
 have HC2 := Aside0.mk hc2
 clear hr2 hc2
 have HB := Aside0.mk (Below.refl w.heap.size w)
 have H : ((ebbtidelaw10_awake.f k).bind fun t1053 => (if t1053 = true then ((mincut_Capacity.f k a0_0 a0_1 l0_2 l1).bind fun bt1054 => ((mincut_Capacity.f k a0_0 a0_1 l0_2 l2).bind fun bt1056 => (if bt1054.2 = 0 then (ebbtidelaw10_MincutSums.j0 k l1 l2 t1053 bt1054.1 bt1056.1 (bt1056.2 != 0) a0_0 a0_1 l0_2) else (ebbtidelaw10_MincutSums.j0 k l1 l2 t1053 bt1054.1 bt1056.1 true a0_0 a0_1 l0_2)))) else (some false))) = some r := h
 clear h
 replace H := Option.bind_eq_some_iff.mp H
 obtain ⟨t1053, A40, H⟩ := H
 replace H : (if t1053 = true then ((mincut_Capacity.f k a0_0 a0_1 l0_2 l1).bind fun bt1054 => ((mincut_Capacity.f k a0_0 a0_1 l0_2 l2).bind fun bt1056 => (if bt1054.2 = 0 then (ebbtidelaw10_MincutSums.j0 k l1 l2 t1053 bt1054.1 bt1056.1 (bt1056.2 != 0) a0_0 a0_1 l0_2) else (ebbtidelaw10_MincutSums.j0 k l1 l2 t1053 bt1054.1 bt1056.1 true a0_0 a0_1 l0_2)))) else (some false)) = some r := H
 have A4 := Aside0.mk A40
 clear A40
 by_cases c5 : t1053 = true
 rotate_left
 ·replace c5 := Bool.eq_false_iff.mpr c5
  subst c5
  have H1 : (some false) = some r := by rw [if_neg (show ¬ (false = true) by decide)] at H; exact H
  exact absurd (Option.some.inj H1) (by rw [HRT.out]; decide)
 subst c5
 have H1 : ((mincut_Capacity.f k a0_0 a0_1 l0_2 l1).bind fun bt1054 => ((mincut_Capacity.f k a0_0 a0_1 l0_2 l2).bind fun bt1056 => (if bt1054.2 = 0 then (ebbtidelaw10_MincutSums.j0 k l1 l2 true bt1054.1 bt1056.1 (bt1056.2 != 0) a0_0 a0_1 l0_2) else (ebbtidelaw10_MincutSums.j0 k l1 l2 true bt1054.1 bt1056.1 true a0_0 a0_1 l0_2)))) = some r := by first | (rw [if_pos rfl] at H; exact H) | (rw [if_pos trivial] at H; exact H)
 clear H
 have H := H1
 clear H1
 replace H := Option.bind_eq_some_iff.mp H
 obtain ⟨⟨t1054, t1055⟩, A60, H⟩ := H
 replace H : ((mincut_Capacity.f k a0_0 a0_1 l0_2 l2).bind fun bt1056 => (if t1055 = 0 then (ebbtidelaw10_MincutSums.j0 k l1 l2 true t1054 bt1056.1 (bt1056.2 != 0) a0_0 a0_1 l0_2) else (ebbtidelaw10_MincutSums.j0 k l1 l2 true t1054 bt1056.1 true a0_0 a0_1 l0_2))) = some r := H
 have A6 := Aside0.mk A60
 clear A60
 replace H := Option.bind_eq_some_iff.mp H
 obtain ⟨⟨t1056, t1057⟩, A70, H⟩ := H
 replace H : (if t1055 = 0 then (ebbtidelaw10_MincutSums.j0 k l1 l2 true t1054 t1056 (t1057 != 0) a0_0 a0_1 l0_2) else (ebbtidelaw10_MincutSums.j0 k l1 l2 true t1054 t1056 true a0_0 a0_1 l0_2)) = some r := H
 have A7 := Aside0.mk A70
 clear A70
 have HC8 := Aside0.mk H
 clear H
 go_enter Try.func27, Try.ntmps27
 go_upto_region 6 with (first | ((with_reducible refine gate_dst (N := 3) rfl ?_); refine box_event ?hg (N := 3) ?hd (cs := #[.int .i64 a0_0, .bool a0_1, .slice A0_2 l0_2.length c0_2]) (t := 24) ?hr ?_; (case hd => rfl); (case hg => rfl); (case hr => first | (go_simp; done) | (go_simp; rfl)); intro gb1052 hg w9 hbox hb; have n0_ := Aside0.mk (below_step (by repeat (first | (with_reducible first | exact HB.out | apply below_alloc | apply pw_below_drewN | apply below_drew1) | exact HB.out)) hb); have n1_ := Aside0.mk (hbox); have n2_ := Aside0.mk ((by rw [hg]; exact (below_size (by repeat (first | (with_reducible first | exact HB.out | apply below_alloc | apply pw_below_drewN | apply below_drew1) | exact HB.out))) : w.heap.size ≤ gb1052)); have n3_ := Aside0.mk ((by rw [hg]; exact (below_size (by repeat (first | (with_reducible first | exact HB.out | apply below_alloc | apply pw_below_drewN | apply below_drew1) | exact HB.out))) : w.heap.size ≤ gb1052)); clear HB; have HB := n0_; have BK1052 := n1_; have GW1052 := n2_; have GE1052 := n3_; clear n0_ n1_ n2_ n3_; clear hb hbox hg) | ((with_reducible refine gate_callee (f := 81) rfl ?_); refine goesL_ (some 19) rfl rfl Try.func81 (by kernel_rfl) rfl #[] rfl (by (try simp only [List.map_toArray, List.map_cons, List.map_nil]); first | done | rfl | (simp only [List.length_drop, List.length_take]; rfl)) ?_; (with_reducible refine (ebbtidelaw10_awake.calls k  true _ A4.out).mono ?_); rintro e w10 ⟨rfl, hb⟩; refine ⟨_, rfl, ?_⟩; have n0_ := Aside0.mk (blk_below (g := gb1052) (o := .cells #[.int .i64 a0_0, .bool a0_1, .slice A0_2 l0_2.length c0_2] 24 (0, 0)) (by (with_reducible repeat (first | refine blk_drewN ?_ _ | refine blk_drew ?_ | refine blk_alloc ?_ _)); exact BK1052.out) hb); have n1_ := Aside0.mk (below_step (by repeat (first | (with_reducible first | exact HB.out | apply below_alloc | apply pw_below_drewN | apply below_drew1 | refine below_set ?_ GE1052.out) | exact HB.out)) hb); clear BK1052; clear HB; have BK1052 := n0_; have HB := n1_; clear n0_ n1_; (try clear hb); (try clear hb2); (try clear hk); (try clear hi); have hcz11_0 : w10.cell? ⟨gb1052, 0, none⟩ = some (.int .i64 a0_0) := (blk_cell BK1052.out 0).trans rfl; have hcz11_1 : w10.cell? ⟨gb1052, 1, none⟩ = some (.bool a0_1) := (blk_cell BK1052.out 1).trans rfl; have hcz11_2 : w10.cell? ⟨gb1052, 2, none⟩ = some (.slice A0_2 l0_2.length c0_2) := (blk_cell BK1052.out 2).trans rfl; have hfz11_0 := blk_frozen BK1052.out 0; have hfz11_1 := blk_frozen BK1052.out 1; have hfz11_2 := blk_frozen BK1052.out 2) | ((with_reducible refine gate_callee (f := 82) rfl ?_); refine goesL_ (some 25) rfl rfl Try.func82 (by kernel_rfl) rfl #[.agg #[.int .i64 a0_0, .bool a0_1, .slice A0_2 l0_2.length c0_2], .slice A1 l1.length c1] rfl (by (try simp only [List.map_toArray, List.map_cons, List.map_nil]); first | done | rfl | (simp only [List.length_drop, List.length_take]; rfl)) ?_; (with_reducible refine (mincut_Capacity.calls k a0_0 a0_1 _ _ l0_2 _ _ l1 t1054 t1055 _ ?side1 ?side2 ?side3 ?side4 A6.out).mono ?_); (case side1 => repeat (first | exact (Kd.C_below HR0_2.out HB.out) | (with_reducible refine Kd.C_alloc ?_ _) | (with_reducible refine Kd.C_drewN ?_ _) | (with_reducible refine Kd.C_drew ?_))); (case side2 => exact HC0_2.out); (case side3 => repeat (first | exact (Kd.C_below HR1.out HB.out) | (with_reducible refine Kd.C_alloc ?_ _) | (with_reducible refine Kd.C_drewN ?_ _) | (with_reducible refine Kd.C_drew ?_))); (case side4 => exact HC1.out); rintro e w12 ⟨rfl, hb⟩; refine ⟨_, rfl, ?_⟩; have n0_ := Aside0.mk (blk_below (g := gb1052) (o := .cells #[.int .i64 a0_0, .bool a0_1, .slice A0_2 l0_2.length c0_2] 24 (0, 0)) (by (with_reducible repeat (first | refine blk_drewN ?_ _ | refine blk_drew ?_ | refine blk_alloc ?_ _)); exact BK1052.out) hb); have n1_ := Aside0.mk (below_step (by repeat (first | (with_reducible first | exact HB.out | apply below_alloc | apply pw_below_drewN | apply below_drew1 | refine below_set ?_ GE1052.out) | exact HB.out)) hb); clear BK1052; clear HB; have BK1052 := n0_; have HB := n1_; clear n0_ n1_; (try clear hb); (try clear hb2); (try clear hk); (try clear hi); have hcz13_0 : w12.cell? ⟨gb1052, 0, none⟩ = some (.int .i64 a0_0) := (blk_cell BK1052.out 0).trans rfl; have hcz13_1 : w12.cell? ⟨gb1052, 1, none⟩ = some (.bool a0_1) := (blk_cell BK1052.out 1).trans rfl; have hcz13_2 : w12.cell? ⟨gb1052, 2, none⟩ = some (.slice A0_2 l0_2.length c0_2) := (blk_cell BK1052.out 2).trans rfl; have hfz13_0 := blk_frozen BK1052.out 0; have hfz13_1 := blk_frozen BK1052.out 1; have hfz13_2 := blk_frozen BK1052.out 2) | ((with_reducible refine gate_callee (f := 82) rfl ?_); refine goesL_ (some 31) rfl rfl Try.func82 (by kernel_rfl) rfl #[.agg #[.int .i64 a0_0, .bool a0_1, .slice A0_2 l0_2.length c0_2], .slice A2 l2.length c2] rfl (by (try simp only [List.map_toArray, List.map_cons, List.map_nil]); first | done | rfl | (simp only [List.length_drop, List.length_take]; rfl)) ?_; (with_reducible refine (mincut_Capacity.calls k a0_0 a0_1 _ _ l0_2 _ _ l2 t1056 t1057 _ ?side1 ?side2 ?side3 ?side4 A7.out).mono ?_); (case side1 => repeat (first | exact (Kd.C_below HR0_2.out HB.out) | (with_reducible refine Kd.C_alloc ?_ _) | (with_reducible refine Kd.C_drewN ?_ _) | (with_reducible refine Kd.C_drew ?_))); (case side2 => exact HC0_2.out); (case side3 => repeat (first | exact (Kd.C_below HR2.out HB.out) | (with_reducible refine Kd.C_alloc ?_ _) | (with_reducible refine Kd.C_drewN ?_ _) | (with_reducible refine Kd.C_drew ?_))); (case side4 => exact HC2.out); rintro e w14 ⟨rfl, hb⟩; refine ⟨_, rfl, ?_⟩; have n0_ := Aside0.mk (blk_below (g := gb1052) (o := .cells #[.int .i64 a0_0, .bool a0_1, .slice A0_2 l0_2.length c0_2] 24 (0, 0)) (by (with_reducible repeat (first | refine blk_drewN ?_ _ | refine blk_drew ?_ | refine blk_alloc ?_ _)); exact BK1052.out) hb); have n1_ := Aside0.mk (below_step (by repeat (first | (with_reducible first | exact HB.out | apply below_alloc | apply pw_below_drewN | apply below_drew1 | refine below_set ?_ GE1052.out) | exact HB.out)) hb); clear BK1052; clear HB; have BK1052 := n0_; have HB := n1_; clear n0_ n1_; (try clear hb); (try clear hb2); (try clear hk); (try clear hi)))
 (try simp only [Act.put, List.setIfInBounds_toArray, List.set_cons_zero, List.set_cons_succ])
 go_cut [39] (fun v39 wc => ∃ (kq : Nat) (x39_7 : Bool), v39 = .bool x39_7 ∧ Aside0 (ebbtidelaw10_MincutSums.j0 kq l1 l2 true t1054 t1056 x39_7 a0_0 a0_1 l0_2 = some r) ∧ Aside0 (kq ≤ k) ∧ Aside0 (wc.heap[gb1052]? = some (.cells #[.int .i64 a0_0, .bool a0_1, (.slice A0_2 l0_2.length c0_2)] 24 (0, 0))) ∧ Aside0 (Below w.heap.size w wc))
 case first =>
  have H := HC8.out
  clear HC8
  by_cases c15 : t1055 = 0
  rotate_left
  ·rw [if_neg c15] at H
   have c15b0 : (t1055 == 0) = false := beq_eq_false_iff_ne.mpr c15
   have c15b1 : (t1055 != 0) = true := bne_iff_ne.mpr c15
   (first | rw [c15b0] | (simp only [i64_w, i32_w]; rw [c15b0]) | skip)
   have H' := Aside0.mk H
   clear H
   go_wp2
   go_meet
   case rel => exact ⟨_, (true), (by first | rfl | (simp; done) | (simp [*]; done)), H', ⟨by first | omega | exact Nat.le_refl _⟩, ⟨by (with_reducible repeat (first | refine blk_drewN ?_ _ | refine blk_drew ?_ | refine blk_alloc ?_ _)); exact BK1052.out⟩, ⟨by repeat (first | (with_reducible first | exact HB.out | apply below_alloc | apply pw_below_drewN | apply below_drew1 | refine below_set ?_ GE1052.out) | exact HB.out)⟩⟩
  rw [if_pos c15] at H
  have c15b0 : (t1055 == 0) = true := beq_iff_eq.mpr c15
  have c15b1 : (t1055 != 0) = false := bne_eq_false_iff_eq.mpr c15
  clear c15
  (first | rw [c15b0] | (simp only [i64_w, i32_w]; rw [c15b0]) | skip)
  have H' := Aside0.mk H
  clear H
  go_wp2
  go_meet
  case rel => exact ⟨_, ((t1057 != 0)), (by first | rfl | (simp; done) | (simp [*]; done)), H', ⟨by first | omega | exact Nat.le_refl _⟩, ⟨by (with_reducible repeat (first | refine blk_drewN ?_ _ | refine blk_drew ?_ | refine blk_alloc ?_ _)); exact BK1052.out⟩, ⟨by repeat (first | (with_reducible first | exact HB.out | apply below_alloc | apply pw_below_drewN | apply below_drew1 | refine below_set ?_ GE1052.out) | exact HB.out)⟩⟩
 case rest =>
  clear HC8
  try clear c1
  try clear c2
  try clear p2
  try clear c5
  try clear c8
  try clear c15
  try clear c15b0
  try clear c15b1
  try clear hcz11_0
  try clear hcz11_1
  try clear hcz11_2
  try clear hcz13_0
  try clear hcz13_1
  try clear hcz13_2
  try clear hfz11_0
  try clear hfz11_1
  try clear hfz11_2
  try clear hfz13_0
  try clear hfz13_1
  try clear hfz13_2
  obtain ⟨kq, x39_7, rfl, HA, HJ7, BK1052, HB⟩ := hcut
  cases kq with
  | zero => exact absurd HA.out (by simp [ebbtidelaw10_MincutSums.j0])
  | succ kj7 =>
   have H := HA.out
   clear HA
   simp only [ebbtidelaw10_MincutSums.j0] at H
   by_cases c16 : x39_7 = true
   ·subst c16
    have H1 : (some true) = some r := by first | (rw [if_pos rfl] at H; exact H) | (rw [if_pos trivial] at H; exact H)
    clear H
    have H := H1
    clear H1
    obtain rfl := Option.some.inj H
    go_wp2
    go_ret
    exact ⟨by first | rfl | (simp [errW_none, errW_some] <;> rfl) | (simp [*, errW_none, errW_some] <;> rfl), by repeat (first | (with_reducible first | exact HB.out | apply below_alloc | apply pw_below_drewN | apply below_drew1 | refine below_set ?_ GE1052.out) | exact HB.out)⟩
   replace c16 := Bool.eq_false_iff.mpr c16
   subst c16
   have H1 : (ebbtidelaw10_MincutSums.l0 kj7 l1 l2 true t1054 t1056 ([] : List Bool) ([] : List Bool) 0 a0_0 a0_1 l0_2) = some r := by rw [if_neg (show ¬ (false = true) by decide)] at H; exact H
   clear H
   have H := H1
   clear H1
   have H' := Aside0.mk H
   clear H
   go_wp2
   go_loopg [12, 13, 14] kj7 (fun kq v12 v13 v14 w' => ∃ (x12_2 : List Bool) (x13_2 : List Bool) (x14_2 : Int), v14 = .int .i64 x14_2 ∧ Aside0 (ebbtidelaw10_MincutSums.l0 kq l1 l2 true t1054 t1056 x12_2 x13_2 x14_2 a0_0 a0_1 l0_2 = some r) ∧ Aside0 (kq ≤ kj7) ∧ Aside0 (Kd.R Kd.bool 4 w' w.heap.size (fun k_ => some k_ ≠ (v13 : Value).ownBlock) v12 x12_2) ∧ Aside0 (Kd.R Kd.bool 4 w' w.heap.size (fun k_ => some k_ ≠ (v12 : Value).ownBlock) v13 x13_2) ∧ Aside0 (w'.heap[gb1052]? = some (.cells #[.int .i64 a0_0, .bool a0_1, (.slice A0_2 l0_2.length c0_2)] 24 (0, 0))) ∧ Aside0 (Below w.heap.size w w'))
   case atStart => exact ⟨(([] : List Bool)), (([] : List Bool)), (0), (by first | rfl | (simp; done) | (simp [*]; done)), H', ⟨Nat.le_refl _⟩, ⟨by first | exact Kd.R_nil _ _ _ _ _ | exact Kd.N_nil _ _ _ _ _ | exact Kd.V_nil _ _ _ _ _ | exact Kd.Q_nil _ _ _ _ _ | exact Kd.S_nil _ _ _ _ _⟩, ⟨by first | exact Kd.R_nil _ _ _ _ _ | exact Kd.N_nil _ _ _ _ _ | exact Kd.V_nil _ _ _ _ _ | exact Kd.Q_nil _ _ _ _ _ | exact Kd.S_nil _ _ _ _ _⟩, ⟨by (with_reducible repeat (first | refine blk_drewN ?_ _ | refine blk_drew ?_ | refine blk_alloc ?_ _)); exact BK1052.out⟩, ⟨by repeat (first | (with_reducible first | exact HB.out | apply below_alloc | apply pw_below_drewN | apply below_drew1 | refine below_set ?_ GE1052.out) | exact HB.out)⟩⟩
   case round =>
    clear H'
    try clear c1
    try clear c2
    try clear p2
    try clear c5
    try clear c8
    try clear c15
    try clear c15b0
    try clear c15b1
    try clear c16
    try clear hcz11_0
    try clear hcz11_1
    try clear hcz11_2
    try clear hcz13_0
    try clear hcz13_1
    try clear hcz13_2
    try clear hfz11_0
    try clear hfz11_1
    try clear hfz11_2
    try clear hfz13_0
    try clear hfz13_1
    try clear hfz13_2
    try clear p2
    obtain ⟨x12_2, x13_2, x14_2, rfl, HA, HK2, HO_12, HO_13, BK1052, HB⟩ := hrel
    cases gk with
    | zero => exact absurd HA.out (by simp [ebbtidelaw10_MincutSums.l0])
    | succ k2 =>
     have H := HA.out
     clear HA
     simp only [ebbtidelaw10_MincutSums.l0] at H
     by_cases c17 : x14_2 < (l1.length : Int)
     rotate_left
     ·rw [if_neg c17] at H
      have c17b0 : decide (x14_2 < (l1.length : Int)) = false := decide_eq_false c17
      clear c17
      replace H := Option.bind_eq_some_iff.mp H
      obtain ⟨⟨t1075, t1076⟩, A310, H⟩ := H
      replace H : ((mincut_Capacity.f k2 a0_0 a0_1 l0_2 x13_2).bind fun bt1077 => (if true = true then (if t1076 = 0 then (if bt1077.2 = 0 then (some (decide ((wrap64 (t1075 + bt1077.1)) ≤ (wrap64 (t1054 + t1056))))) else (some false)) else (some false)) else (some false))) = some r := H
      have A31 := Aside0.mk A310
      clear A310
      replace H := Option.bind_eq_some_iff.mp H
      obtain ⟨⟨t1077, t1078⟩, A320, H⟩ := H
      replace H : (if true = true then (if t1076 = 0 then (if t1078 = 0 then (some (decide ((wrap64 (t1075 + t1077)) ≤ (wrap64 (t1054 + t1056))))) else (some false)) else (some false)) else (some false)) = some r := H
      have A32 := Aside0.mk A320
      clear A320
      by_cases c33 : true = true
      rotate_left
      ·exact absurd rfl c33
      clear c33
      have H1 : (if t1076 = 0 then (if t1078 = 0 then (some (decide ((wrap64 (t1075 + t1077)) ≤ (wrap64 (t1054 + t1056))))) else (some false)) else (some false)) = some r := by first | (rw [if_pos rfl] at H; exact H) | (rw [if_pos trivial] at H; exact H)
      clear H
      have H := H1
      clear H1
      by_cases c34 : t1076 = 0
      rotate_left
      ·rw [if_neg c34] at H
       exact absurd (Option.some.inj H) (by rw [HRT.out]; decide)
      rw [if_pos c34] at H
      have c34b0 : (t1076 == 0) = true := beq_iff_eq.mpr c34
      have c34b1 : (t1076 != 0) = false := bne_eq_false_iff_eq.mpr c34
      clear c34
      by_cases c35 : t1078 = 0
      rotate_left
      ·rw [if_neg c35] at H
       exact absurd (Option.some.inj H) (by rw [HRT.out]; decide)
      rw [if_pos c35] at H
      have c35b0 : (t1078 == 0) = true := beq_iff_eq.mpr c35
      have c35b1 : (t1078 != 0) = false := bne_eq_false_iff_eq.mpr c35
      clear c35
      obtain rfl := Option.some.inj H
      have hcz36_0 : wr.cell? ⟨gb1052, 0, none⟩ = some (.int .i64 a0_0) := (blk_cell BK1052.out 0).trans rfl
      have hcz36_1 : wr.cell? ⟨gb1052, 1, none⟩ = some (.bool a0_1) := (blk_cell BK1052.out 1).trans rfl
      have hcz36_2 : wr.cell? ⟨gb1052, 2, none⟩ = some (.slice A0_2 l0_2.length c0_2) := (blk_cell BK1052.out 2).trans rfl
      have hfz36_0 := blk_frozen BK1052.out 0
      have hfz36_1 := blk_frozen BK1052.out 1
      have hfz36_2 := blk_frozen BK1052.out 2
      obtain ⟨Ao37, co37, eo37⟩ := Kd.R_slice HO_12.out
      subst eo37
      go_wp2_with (first | ((with_reducible refine gate_callee (f := 82) rfl ?_); refine goesL_ (some 76) rfl rfl Try.func82 (by kernel_rfl) rfl #[.agg #[.int .i64 a0_0, .bool a0_1, .slice A0_2 l0_2.length c0_2], .slice Ao37 x12_2.length co37] rfl (by (try simp only [List.map_toArray, List.map_cons, List.map_nil]); first | done | rfl | (simp only [List.length_drop, List.length_take]; rfl)) ?_; (with_reducible refine (mincut_Capacity.calls k2 a0_0 a0_1 _ _ l0_2 _ _ x12_2 t1075 t1076 _ ?side1 ?side2 ?side3 ?side4 (by first | exact A31.out | (have h_ := A31.out; rw [← Nbq19.out] at h_; exact h_))).mono ?_); (case side1 => repeat (first | exact (Kd.C_below HR0_2.out HB.out) | (with_reducible refine Kd.C_alloc ?_ _) | (with_reducible refine Kd.C_drewN ?_ _) | (with_reducible refine Kd.C_drew ?_))); (case side2 => exact HC0_2.out); (case side3 => repeat (first | exact (Kd.R_reads' HO_12.out).2.2 | (with_reducible refine Kd.C_alloc ?_ _) | (with_reducible refine Kd.C_drewN ?_ _) | (with_reducible refine Kd.C_drew ?_))); (case side4 => exact (Kd.R_reads' HO_12.out).2.1); rintro e w38 ⟨rfl, hb⟩; refine ⟨_, rfl, ?_⟩; have n0_ := Aside0.mk (Kd.R_below (by (with_reducible repeat (first | apply Kd.R_alloc | apply Kd.R_drewN | apply Kd.R_drew)); exact HO_12.out) hb); have n1_ := Aside0.mk (Kd.R_below (by (with_reducible repeat (first | apply Kd.R_alloc | apply Kd.R_drewN | apply Kd.R_drew)); exact HO_13.out) hb); have n2_ := Aside0.mk (blk_below (g := gb1052) (o := .cells #[.int .i64 a0_0, .bool a0_1, .slice A0_2 l0_2.length c0_2] 24 (0, 0)) (by (with_reducible repeat (first | refine blk_drewN ?_ _ | refine blk_drew ?_ | refine blk_alloc ?_ _)); exact BK1052.out) hb); have n3_ := Aside0.mk (below_step (by repeat (first | (with_reducible first | exact HB.out | apply below_alloc | apply pw_below_drewN | apply below_drew1 | refine below_set ?_ GE1052.out) | exact HB.out)) hb); clear HO_12; clear HO_13; clear BK1052; clear HB; have HO_12 := n0_; have HO_13 := n1_; have BK1052 := n2_; have HB := n3_; clear n0_ n1_ n2_ n3_; (try clear hb); (try clear hb2); (try clear hk); (try clear hi); have hcz39_0 : w38.cell? ⟨gb1052, 0, none⟩ = some (.int .i64 a0_0) := (blk_cell BK1052.out 0).trans rfl; have hcz39_1 : w38.cell? ⟨gb1052, 1, none⟩ = some (.bool a0_1) := (blk_cell BK1052.out 1).trans rfl; have hcz39_2 : w38.cell? ⟨gb1052, 2, none⟩ = some (.slice A0_2 l0_2.length c0_2) := (blk_cell BK1052.out 2).trans rfl; have hfz39_0 := blk_frozen BK1052.out 0; have hfz39_1 := blk_frozen BK1052.out 1; have hfz39_2 := blk_frozen BK1052.out 2; obtain ⟨Ao40, co40, eo40⟩ := Kd.R_slice HO_13.out; subst eo40) | ((with_reducible refine gate_callee (f := 82) rfl ?_); refine goesL_ (some 82) rfl rfl Try.func82 (by kernel_rfl) rfl #[.agg #[.int .i64 a0_0, .bool a0_1, .slice A0_2 l0_2.length c0_2], .slice Ao40 x13_2.length co40] rfl (by (try simp only [List.map_toArray, List.map_cons, List.map_nil]); first | done | rfl | (simp only [List.length_drop, List.length_take]; rfl)) ?_; (with_reducible refine (mincut_Capacity.calls k2 a0_0 a0_1 _ _ l0_2 _ _ x13_2 t1077 t1078 _ ?side1 ?side2 ?side3 ?side4 A32.out).mono ?_); (case side1 => repeat (first | exact (Kd.C_below HR0_2.out HB.out) | (with_reducible refine Kd.C_alloc ?_ _) | (with_reducible refine Kd.C_drewN ?_ _) | (with_reducible refine Kd.C_drew ?_))); (case side2 => exact HC0_2.out); (case side3 => repeat (first | exact (Kd.R_reads' HO_13.out).2.2 | (with_reducible refine Kd.C_alloc ?_ _) | (with_reducible refine Kd.C_drewN ?_ _) | (with_reducible refine Kd.C_drew ?_))); (case side4 => exact (Kd.R_reads' HO_13.out).2.1); rintro e w41 ⟨rfl, hb⟩; refine ⟨_, rfl, ?_⟩; have n0_ := Aside0.mk (Kd.R_below (by (with_reducible repeat (first | apply Kd.R_alloc | apply Kd.R_drewN | apply Kd.R_drew)); exact HO_12.out) hb); have n1_ := Aside0.mk (Kd.R_below (by (with_reducible repeat (first | apply Kd.R_alloc | apply Kd.R_drewN | apply Kd.R_drew)); exact HO_13.out) hb); have n2_ := Aside0.mk (blk_below (g := gb1052) (o := .cells #[.int .i64 a0_0, .bool a0_1, .slice A0_2 l0_2.length c0_2] 24 (0, 0)) (by (with_reducible repeat (first | refine blk_drewN ?_ _ | refine blk_drew ?_ | refine blk_alloc ?_ _)); exact BK1052.out) hb); have n3_ := Aside0.mk (below_step (by repeat (first | (with_reducible first | exact HB.out | apply below_alloc | apply pw_below_drewN | apply below_drew1 | refine below_set ?_ GE1052.out) | exact HB.out)) hb); clear HO_12; clear HO_13; clear BK1052; clear HB; have HO_12 := n0_; have HO_13 := n1_; have BK1052 := n2_; have HB := n3_; clear n0_ n1_ n2_ n3_; (try clear hb); (try clear hb2); (try clear hk); (try clear hi)))
      go_ret
      exact ⟨by first | rfl | (simp [errW_none, errW_some] <;> rfl) | (simp [*, errW_none, errW_some] <;> rfl), by repeat (first | (with_reducible first | exact HB.out | apply below_alloc | apply pw_below_drewN | apply below_drew1 | refine below_set ?_ GE1052.out) | exact HB.out)⟩
     rw [if_pos c17] at H
     have c17b0 : decide (x14_2 < (l1.length : Int)) = true := decide_eq_true c17
     clear c17
     by_cases c18 : 0 ≤ x14_2
     rotate_left
     ·rw [if_neg c18] at H
      exact absurd H (by simp)
     rw [if_pos c18] at H
     have c18b0 : decide (0 ≤ x14_2) = true := decide_eq_true c18
     clear c18
     obtain ⟨bq19, hbq19⟩ : ∃ b_ : Bool, b_ = (rdOf false l1 x14_2) := ⟨_, rfl⟩
     replace H : (if bq19 = true then (if x14_2 < (l2.length : Int) then (if x12_2.length < 140737488355328 then (if x13_2.length < 140737488355328 then (ebbtidelaw10_MincutSums.l0 k2 l1 l2 true t1054 t1056 (x12_2 ++ [rdOf false l2 x14_2]) (x13_2 ++ [true]) (wrap64 (x14_2 + 1)) a0_0 a0_1 l0_2) else (none)) else (none)) else (none)) else (if x12_2.length < 140737488355328 then (if x14_2 < (l2.length : Int) then (if x13_2.length < 140737488355328 then (ebbtidelaw10_MincutSums.l0 k2 l1 l2 true t1054 t1056 (x12_2 ++ [false]) (x13_2 ++ [rdOf false l2 x14_2]) (wrap64 (x14_2 + 1)) a0_0 a0_1 l0_2) else (none)) else (none)) else (none))) = some r := by rw [← hbq19] at H; exact H
     have Nbq19 := Aside0.mk hbq19
     clear hbq19
     by_cases c20 : bq19 = true
     rotate_left
     ·replace c20 := Bool.eq_false_iff.mpr c20
      subst c20
      have H1 : (if x12_2.length < 140737488355328 then (if x14_2 < (l2.length : Int) then (if x13_2.length < 140737488355328 then (ebbtidelaw10_MincutSums.l0 k2 l1 l2 true t1054 t1056 (x12_2 ++ [false]) (x13_2 ++ [rdOf false l2 x14_2]) (wrap64 (x14_2 + 1)) a0_0 a0_1 l0_2) else (none)) else (none)) else (none)) = some r := by rw [if_neg (show ¬ (false = true) by decide)] at H; exact H
      clear H
      have H := H1
      clear H1
      by_cases c26 : x12_2.length < 140737488355328
      rotate_left
      ·rw [if_neg c26] at H
       exact absurd H (by simp)
      rw [if_pos c26] at H
      have LMc26 := Aside0.mk c26
      clear c26
      obtain ⟨y1067, hy1067⟩ : ∃ y_ : List Bool, y_ = (x12_2 ++ [false]) := ⟨_, rfl⟩
      replace H : (if x14_2 < (l2.length : Int) then (if x13_2.length < 140737488355328 then (ebbtidelaw10_MincutSums.l0 k2 l1 l2 true t1054 t1056 y1067 (x13_2 ++ [rdOf false l2 x14_2]) (wrap64 (x14_2 + 1)) a0_0 a0_1 l0_2) else (none)) else (none)) = some r := by first | (rw [hy1067]; with_reducible exact H) | (have H2_ := (Option.bind_some _ _).symm.trans H; rw [hy1067]; with_reducible exact H2_) | (have H2_ := (Option.bind_some _ _).symm.trans H; with_reducible exact H2_) | with_reducible exact H | (rw [hy1067]; exact H) | exact H
      have Ny1067 := Aside0.mk hy1067
      clear hy1067
      by_cases c27 : x14_2 < (l2.length : Int)
      rotate_left
      ·rw [if_neg c27] at H
       exact absurd H (by simp)
      rw [if_pos c27] at H
      have c27b0 : decide (x14_2 < (l2.length : Int)) = true := decide_eq_true c27
      clear c27
      by_cases c28 : x13_2.length < 140737488355328
      rotate_left
      ·rw [if_neg c28] at H
       exact absurd H (by simp)
      rw [if_pos c28] at H
      have LMc28 := Aside0.mk c28
      clear c28
      obtain ⟨y1072, hy1072⟩ : ∃ y_ : List Bool, y_ = (x13_2 ++ [rdOf false l2 x14_2]) := ⟨_, rfl⟩
      replace H : (ebbtidelaw10_MincutSums.l0 k2 l1 l2 true t1054 t1056 y1067 y1072 (wrap64 (x14_2 + 1)) a0_0 a0_1 l0_2) = some r := by first | (rw [hy1072]; with_reducible exact H) | (have H2_ := (Option.bind_some _ _).symm.trans H; rw [hy1072]; with_reducible exact H2_) | (have H2_ := (Option.bind_some _ _).symm.trans H; with_reducible exact H2_) | with_reducible exact H | (rw [hy1072]; exact H) | exact H
      have Ny1072 := Aside0.mk hy1072
      clear hy1072
      have H' := Aside0.mk H
      clear H
      have p1058 : 0 ≤ (x14_2 : Int) := of_decide_eq_true (by first | (with_reducible assumption) | assumption)
      have q1058 : x14_2 < (l1.length : Int) := of_decide_eq_true (by first | (with_reducible assumption) | assumption)
      obtain ⟨ad1058, e1058, hx1058_0⟩ := Kd.at_bool HR1.out x14_2 p1058 q1058
      (try rw [← Nbq19.out] at hx1058_0)
      cases e1058
      replace hx1058_0 := (HB.out.cell (World.block_lt_of_cell? w _ hx1058_0)).trans hx1058_0
      replace p1058 := eq_true p1058
      replace q1058 := eq_true q1058
      go_wp2_with (first | ((with_reducible refine gate_builtin (b := .append) (xs := #[.tmp 47, .tmp 58]) rfl ?_); at_builtin; refine Kd.R_append Kd.bool (w0 := w) w.heap.size rfl (.tmp 47) (.tmp 58) 26 4 (.bool false) 1 rfl Try.underlying26 info4 rfl (by decide) (by omega) u12 x12_2 false [.bool false] (fun k_ => some k_ ≠ (u13 : Value).ownBlock) (fun _ => False) rfl rfl ?aP (fun _ hk => hk.elim) ?aF ?aO ?aB ?aS ?aL ?_; (case aP => exact rfl); (case aB => exact (by repeat (first | (with_reducible first | exact HB.out | apply below_alloc | apply pw_below_drewN | apply below_drew1 | refine below_set ?_ GE1052.out) | exact HB.out))); (case aF => exact (fun k_ hk => Kd.fresh' (Kd.R_lt (by (with_reducible repeat (first | apply Kd.R_alloc | apply Kd.R_drewN | apply Kd.R_drew)); exact HO_13.out)) k_ hk)); (case aO => exact (by (with_reducible repeat (first | apply Kd.R_alloc | apply Kd.R_drewN | apply Kd.R_drew)); exact HO_12.out)); (case aS => exact (below_size (by repeat (first | (with_reducible first | exact HB.out | apply below_alloc | apply pw_below_drewN | apply below_drew1 | refine below_set ?_ GE1052.out) | exact HB.out)))); (case aL => have := LMc26.out; omega); intro v1068 w29 ho hb hg hat; rw [← Ny1067.out] at ho; have n0_ := Aside0.mk (Kd.R_after (ok := (fun _ => True)) (by (with_reducible repeat (first | apply Kd.R_alloc | apply Kd.R_drewN | apply Kd.R_drew)); exact Kd.R_mono HO_13.out (fun _ hk => ⟨trivial, hk⟩)) hg hat); have n1_ := Aside0.mk (blk_grown (g := gb1052) (o := .cells #[.int .i64 a0_0, .bool a0_1, .slice A0_2 l0_2.length c0_2] 24 (0, 0)) (by (with_reducible repeat (first | refine blk_drewN ?_ _ | refine blk_drew ?_ | refine blk_alloc ?_ _)); exact BK1052.out) hg (Kd.R_ne HO_12.out BK1052.out (by decide))); have n2_ := Aside0.mk (hb); have n3_ := Aside0.mk (ho); clear HO_13; clear BK1052; clear HB; clear HO_12; have HO_13 := n0_; have BK1052 := n1_; have HB := n2_; have HO1069 := n3_; clear n0_ n1_ n2_ n3_; clear ho hb hg hat; have p1070 : 0 ≤ (x14_2 : Int) := of_decide_eq_true (by first | (with_reducible assumption) | assumption); have q1070 : x14_2 < (l1.length : Int) := of_decide_eq_true (by first | (with_reducible assumption) | assumption); obtain ⟨ad1070, e1070, hx1070_0⟩ := Kd.at_bool HR1.out x14_2 p1070 q1070; (try rw [← Nbq19.out] at hx1070_0); obtain rfl : ad1058 = ad1070 := (by injection e1070); replace hx1070_0 := (HB.out.cell (World.block_lt_of_cell? w _ hx1070_0)).trans hx1070_0; replace p1070 := eq_true p1070; replace q1070 := eq_true q1070; have p1071 : 0 ≤ (x14_2 : Int) := of_decide_eq_true (by first | (with_reducible assumption) | assumption); have q1071 : x14_2 < (l2.length : Int) := of_decide_eq_true (by first | (with_reducible assumption) | assumption); obtain ⟨ad1071, e1071, hx1071_0⟩ := Kd.at_bool HR2.out x14_2 p1071 q1071; (try rw [← Nbq19.out] at hx1071_0); cases e1071; replace hx1071_0 := (HB.out.cell (World.block_lt_of_cell? w _ hx1071_0)).trans hx1071_0; replace p1071 := eq_true p1071; replace q1071 := eq_true q1071) | ((with_reducible refine gate_builtin (b := .append) (xs := #[.tmp 60, .tmp 71]) rfl ?_); at_builtin; refine Kd.R_append Kd.bool (w0 := w) w.heap.size rfl (.tmp 60) (.tmp 71) 26 4 (.bool false) 1 rfl Try.underlying26 info4 rfl (by decide) (by omega) u13 x13_2 (rdOf false l2 x14_2) [.bool (rdOf false l2 x14_2)] (fun k_ => some k_ ≠ (v1068 : Value).ownBlock) (fun _ => False) rfl rfl ?aP (fun _ hk => hk.elim) ?aF ?aO ?aB ?aS ?aL ?_; (case aP => exact rfl); (case aB => exact (by repeat (first | (with_reducible first | exact HB.out | apply below_alloc | apply pw_below_drewN | apply below_drew1 | refine below_set ?_ GE1052.out) | exact HB.out))); (case aF => exact (fun k_ hk => Kd.fresh' (Kd.R_lt (by (with_reducible repeat (first | apply Kd.R_alloc | apply Kd.R_drewN | apply Kd.R_drew)); exact HO1069.out)) k_ hk)); (case aO => exact (by (with_reducible repeat (first | apply Kd.R_alloc | apply Kd.R_drewN | apply Kd.R_drew)); exact Kd.R_mono HO_13.out (fun _ hk => hk.2))); (case aS => exact (below_size (by repeat (first | (with_reducible first | exact HB.out | apply below_alloc | apply pw_below_drewN | apply below_drew1 | refine below_set ?_ GE1052.out) | exact HB.out)))); (case aL => have := LMc28.out; omega); intro v1073 w30 ho hb hg hat; rw [← Ny1072.out] at ho; have n0_ := Aside0.mk (blk_grown (g := gb1052) (o := .cells #[.int .i64 a0_0, .bool a0_1, .slice A0_2 l0_2.length c0_2] 24 (0, 0)) (by (with_reducible repeat (first | refine blk_drewN ?_ _ | refine blk_drew ?_ | refine blk_alloc ?_ _)); exact BK1052.out) hg (Kd.R_ne HO_13.out BK1052.out (by decide))); have n1_ := Aside0.mk (Kd.R_after (ok := (fun _ => True)) (by (with_reducible repeat (first | apply Kd.R_alloc | apply Kd.R_drewN | apply Kd.R_drew)); exact Kd.R_mono HO1069.out (fun _ hk => ⟨trivial, hk⟩)) hg hat); have n2_ := Aside0.mk (hb); have n3_ := Aside0.mk (ho); clear BK1052; clear HO1069; clear HB; clear HO_13; have BK1052 := n0_; have HO1069 := n1_; have HB := n2_; have HO1074 := n3_; clear n0_ n1_ n2_ n3_; clear ho hb hg hat))
      go_roundg k2
      case measure => have := HJ7.out; have := HK2.out; omega
      case rel => exact ⟨(y1067), (y1072), (wrap64 (x14_2 + 1)), (by first | rfl | (simp; done) | (simp [*]; done)), H', ⟨by have := HJ7.out; have := HK2.out; omega⟩, ⟨by (with_reducible repeat (first | apply Kd.R_alloc | apply Kd.R_drewN | apply Kd.R_drew)); exact Kd.R_mono HO1069.out (fun _ hk => hk.2)⟩, ⟨by (with_reducible repeat (first | apply Kd.R_alloc | apply Kd.R_drewN | apply Kd.R_drew)); exact HO1074.out⟩, ⟨by (with_reducible repeat (first | refine blk_drewN ?_ _ | refine blk_drew ?_ | refine blk_alloc ?_ _)); exact BK1052.out⟩, ⟨by repeat (first | (with_reducible first | exact HB.out | apply below_alloc | apply pw_below_drewN | apply below_drew1 | refine below_set ?_ GE1052.out) | exact HB.out)⟩⟩
     subst c20
     have H1 : (if x14_2 < (l2.length : Int) then (if x12_2.length < 140737488355328 then (if x13_2.length < 140737488355328 then (ebbtidelaw10_MincutSums.l0 k2 l1 l2 true t1054 t1056 (x12_2 ++ [rdOf false l2 x14_2]) (x13_2 ++ [true]) (wrap64 (x14_2 + 1)) a0_0 a0_1 l0_2) else (none)) else (none)) else (none)) = some r := by first | (rw [if_pos rfl] at H; exact H) | (rw [if_pos trivial] at H; exact H)
     clear H
     have H := H1
     clear H1
     by_cases c21 : x14_2 < (l2.length : Int)
     rotate_left
     ·rw [if_neg c21] at H
      exact absurd H (by simp)
     rw [if_pos c21] at H
     have c21b0 : decide (x14_2 < (l2.length : Int)) = true := decide_eq_true c21
     clear c21
     by_cases c22 : x12_2.length < 140737488355328
     rotate_left
     ·rw [if_neg c22] at H
      exact absurd H (by simp)
     rw [if_pos c22] at H
     have LMc22 := Aside0.mk c22
     clear c22
     obtain ⟨y1060, hy1060⟩ : ∃ y_ : List Bool, y_ = (x12_2 ++ [rdOf false l2 x14_2]) := ⟨_, rfl⟩
     replace H : (if x13_2.length < 140737488355328 then (ebbtidelaw10_MincutSums.l0 k2 l1 l2 true t1054 t1056 y1060 (x13_2 ++ [true]) (wrap64 (x14_2 + 1)) a0_0 a0_1 l0_2) else (none)) = some r := by first | (rw [hy1060]; with_reducible exact H) | (have H2_ := (Option.bind_some _ _).symm.trans H; rw [hy1060]; with_reducible exact H2_) | (have H2_ := (Option.bind_some _ _).symm.trans H; with_reducible exact H2_) | with_reducible exact H | (rw [hy1060]; exact H) | exact H
     have Ny1060 := Aside0.mk hy1060
     clear hy1060
     by_cases c23 : x13_2.length < 140737488355328
     rotate_left
     ·rw [if_neg c23] at H
      exact absurd H (by simp)
     rw [if_pos c23] at H
     have LMc23 := Aside0.mk c23
     clear c23
     obtain ⟨y1064, hy1064⟩ : ∃ y_ : List Bool, y_ = (x13_2 ++ [true]) := ⟨_, rfl⟩
     replace H : (ebbtidelaw10_MincutSums.l0 k2 l1 l2 true t1054 t1056 y1060 y1064 (wrap64 (x14_2 + 1)) a0_0 a0_1 l0_2) = some r := by first | (rw [hy1064]; with_reducible exact H) | (have H2_ := (Option.bind_some _ _).symm.trans H; rw [hy1064]; with_reducible exact H2_) | (have H2_ := (Option.bind_some _ _).symm.trans H; with_reducible exact H2_) | with_reducible exact H | (rw [hy1064]; exact H) | exact H
     have Ny1064 := Aside0.mk hy1064
     clear hy1064
     have H' := Aside0.mk H
     clear H
     have p1058 : 0 ≤ (x14_2 : Int) := of_decide_eq_true (by first | (with_reducible assumption) | assumption)
     have q1058 : x14_2 < (l1.length : Int) := of_decide_eq_true (by first | (with_reducible assumption) | assumption)
     obtain ⟨ad1058, e1058, hx1058_0⟩ := Kd.at_bool HR1.out x14_2 p1058 q1058
     (try rw [← Nbq19.out] at hx1058_0)
     cases e1058
     replace hx1058_0 := (HB.out.cell (World.block_lt_of_cell? w _ hx1058_0)).trans hx1058_0
     replace p1058 := eq_true p1058
     replace q1058 := eq_true q1058
     have p1059 : 0 ≤ (x14_2 : Int) := of_decide_eq_true (by first | (with_reducible assumption) | assumption)
     have q1059 : x14_2 < (l2.length : Int) := of_decide_eq_true (by first | (with_reducible assumption) | assumption)
     obtain ⟨ad1059, e1059, hx1059_0⟩ := Kd.at_bool HR2.out x14_2 p1059 q1059
     (try rw [← Nbq19.out] at hx1059_0)
     cases e1059
     replace hx1059_0 := (HB.out.cell (World.block_lt_of_cell? w _ hx1059_0)).trans hx1059_0
     replace p1059 := eq_true p1059
     replace q1059 := eq_true q1059
     go_wp2_with (first | ((with_reducible refine gate_builtin (b := .append) (xs := #[.tmp 47, .tmp 58]) rfl ?_); at_builtin; refine Kd.R_append Kd.bool (w0 := w) w.heap.size rfl (.tmp 47) (.tmp 58) 26 4 (.bool false) 1 rfl Try.underlying26 info4 rfl (by decide) (by omega) u12 x12_2 (rdOf false l2 x14_2) [.bool (rdOf false l2 x14_2)] (fun k_ => some k_ ≠ (u13 : Value).ownBlock) (fun _ => False) rfl rfl ?aP (fun _ hk => hk.elim) ?aF ?aO ?aB ?aS ?aL ?_; (case aP => exact rfl); (case aB => exact (by repeat (first | (with_reducible first | exact HB.out | apply below_alloc | apply pw_below_drewN | apply below_drew1 | refine below_set ?_ GE1052.out) | exact HB.out))); (case aF => exact (fun k_ hk => Kd.fresh' (Kd.R_lt (by (with_reducible repeat (first | apply Kd.R_alloc | apply Kd.R_drewN | apply Kd.R_drew)); exact HO_13.out)) k_ hk)); (case aO => exact (by (with_reducible repeat (first | apply Kd.R_alloc | apply Kd.R_drewN | apply Kd.R_drew)); exact HO_12.out)); (case aS => exact (below_size (by repeat (first | (with_reducible first | exact HB.out | apply below_alloc | apply pw_below_drewN | apply below_drew1 | refine below_set ?_ GE1052.out) | exact HB.out)))); (case aL => have := LMc22.out; omega); intro v1061 w24 ho hb hg hat; rw [← Ny1060.out] at ho; have n0_ := Aside0.mk (Kd.R_after (ok := (fun _ => True)) (by (with_reducible repeat (first | apply Kd.R_alloc | apply Kd.R_drewN | apply Kd.R_drew)); exact Kd.R_mono HO_13.out (fun _ hk => ⟨trivial, hk⟩)) hg hat); have n1_ := Aside0.mk (blk_grown (g := gb1052) (o := .cells #[.int .i64 a0_0, .bool a0_1, .slice A0_2 l0_2.length c0_2] 24 (0, 0)) (by (with_reducible repeat (first | refine blk_drewN ?_ _ | refine blk_drew ?_ | refine blk_alloc ?_ _)); exact BK1052.out) hg (Kd.R_ne HO_12.out BK1052.out (by decide))); have n2_ := Aside0.mk (hb); have n3_ := Aside0.mk (ho); clear HO_13; clear BK1052; clear HB; clear HO_12; have HO_13 := n0_; have BK1052 := n1_; have HB := n2_; have HO1062 := n3_; clear n0_ n1_ n2_ n3_; clear ho hb hg hat; have p1063 : 0 ≤ (x14_2 : Int) := of_decide_eq_true (by first | (with_reducible assumption) | assumption); have q1063 : x14_2 < (l1.length : Int) := of_decide_eq_true (by first | (with_reducible assumption) | assumption); obtain ⟨ad1063, e1063, hx1063_0⟩ := Kd.at_bool HR1.out x14_2 p1063 q1063; (try rw [← Nbq19.out] at hx1063_0); obtain rfl : ad1058 = ad1063 := (by injection e1063); replace hx1063_0 := (HB.out.cell (World.block_lt_of_cell? w _ hx1063_0)).trans hx1063_0; replace p1063 := eq_true p1063; replace q1063 := eq_true q1063) | ((with_reducible refine gate_builtin (b := .append) (xs := #[.tmp 60, .tmp 71]) rfl ?_); at_builtin; refine Kd.R_append Kd.bool (w0 := w) w.heap.size rfl (.tmp 60) (.tmp 71) 26 4 (.bool false) 1 rfl Try.underlying26 info4 rfl (by decide) (by omega) u13 x13_2 true [.bool true] (fun k_ => some k_ ≠ (v1061 : Value).ownBlock) (fun _ => False) rfl rfl ?aP (fun _ hk => hk.elim) ?aF ?aO ?aB ?aS ?aL ?_; (case aP => exact rfl); (case aB => exact (by repeat (first | (with_reducible first | exact HB.out | apply below_alloc | apply pw_below_drewN | apply below_drew1 | refine below_set ?_ GE1052.out) | exact HB.out))); (case aF => exact (fun k_ hk => Kd.fresh' (Kd.R_lt (by (with_reducible repeat (first | apply Kd.R_alloc | apply Kd.R_drewN | apply Kd.R_drew)); exact HO1062.out)) k_ hk)); (case aO => exact (by (with_reducible repeat (first | apply Kd.R_alloc | apply Kd.R_drewN | apply Kd.R_drew)); exact Kd.R_mono HO_13.out (fun _ hk => hk.2))); (case aS => exact (below_size (by repeat (first | (with_reducible first | exact HB.out | apply below_alloc | apply pw_below_drewN | apply below_drew1 | refine below_set ?_ GE1052.out) | exact HB.out)))); (case aL => have := LMc23.out; omega); intro v1065 w25 ho hb hg hat; rw [← Ny1064.out] at ho; have n0_ := Aside0.mk (blk_grown (g := gb1052) (o := .cells #[.int .i64 a0_0, .bool a0_1, .slice A0_2 l0_2.length c0_2] 24 (0, 0)) (by (with_reducible repeat (first | refine blk_drewN ?_ _ | refine blk_drew ?_ | refine blk_alloc ?_ _)); exact BK1052.out) hg (Kd.R_ne HO_13.out BK1052.out (by decide))); have n1_ := Aside0.mk (Kd.R_after (ok := (fun _ => True)) (by (with_reducible repeat (first | apply Kd.R_alloc | apply Kd.R_drewN | apply Kd.R_drew)); exact Kd.R_mono HO1062.out (fun _ hk => ⟨trivial, hk⟩)) hg hat); have n2_ := Aside0.mk (hb); have n3_ := Aside0.mk (ho); clear BK1052; clear HO1062; clear HB; clear HO_13; have BK1052 := n0_; have HO1062 := n1_; have HB := n2_; have HO1066 := n3_; clear n0_ n1_ n2_ n3_; clear ho hb hg hat))
     go_roundg k2
     case measure => have := HJ7.out; have := HK2.out; omega
     case rel => exact ⟨(y1060), (y1064), (wrap64 (x14_2 + 1)), (by first | rfl | (simp; done) | (simp [*]; done)), H', ⟨by have := HJ7.out; have := HK2.out; omega⟩, ⟨by (with_reducible repeat (first | apply Kd.R_alloc | apply Kd.R_drewN | apply Kd.R_drew)); exact Kd.R_mono HO1062.out (fun _ hk => hk.2)⟩, ⟨by (with_reducible repeat (first | apply Kd.R_alloc | apply Kd.R_drewN | apply Kd.R_drew)); exact HO1066.out⟩, ⟨by (with_reducible repeat (first | refine blk_drewN ?_ _ | refine blk_drew ?_ | refine blk_alloc ?_ _)); exact BK1052.out⟩, ⟨by repeat (first | (with_reducible first | exact HB.out | apply below_alloc | apply pw_below_drewN | apply below_drew1 | refine below_set ?_ GE1052.out) | exact HB.out)⟩⟩
end Go.Proofs.Ytkcpanpdipmmmaa.P
namespace Go.Proofs.Ytkcpanpdipmmmaa.Opn
open Go.RowKit Go.ChangeShapes Go.WideShapes Go.Deep Go.Proofs.YtkcpanpdipmmmaaW.PrintWords
def Opens (P : Program) (t : TypeId) {α : Type} (d : Kd α) (ok : α → Prop) : Prop :=
 ∀ (H : Type) (enc : TypeId × Value → H) (w : World) (base : Nat) (spare : Nat → Bool) (held : Bool) (fuel : Nat) (cs : List Value) (x : DataW H × List MemPlace),
  DataW.trod enc P w base spare held fuel t cs = some x → ∃ a : α, d.K w a cs ∧ ok a
theorem opens_int {P : Program} {t : TypeId} {k : IntKind} (ht : P.underlying t = some (.int k)) : Opens P t (Kd.int k) (fun n => (Lit.int k n).wf = true) := by
 intro H enc w base spare held fuel cs x h
 obtain ⟨n, rfl, _, hw⟩ := DataW.trod_int ht h
 exact ⟨n, rfl, hw⟩
theorem opens_bool {P : Program} {t : TypeId} (ht : P.underlying t = some .bool) : Opens P t Kd.bool (fun _ => True) := by
 intro H enc w base spare held fuel cs x h
 obtain ⟨b, rfl, _⟩ := DataW.trod_bool ht h
 exact ⟨b, rfl, trivial⟩
theorem opens_slice {P : Program} {t e : TypeId} {α : Type} {d : Kd α} {ok : α → Prop} (ht : P.underlying t = some (.slice e)) (hc : P.cellsOf e = d.sz) (h : Opens P e d ok) :
  Opens P t (Kd.slice e d) (fun l => l.length ≤ 9223372036854775807 ∧ ∀ x ∈ l, ok x) := by
 intro H enc w base spare held fuel cs x hx
 rcases open_slice ht hx with ⟨rfl, _⟩ | ⟨a, len, cap, m, n, D, Pl, rfl, hb, hl, hm, hmm, _, hi⟩
 ·exact ⟨[], ⟨none, 0, rfl, Nat.le_refl _, rfl, by simp, fun h => absurd h (by simp)⟩, by simp, by simp⟩
 ·have hlm : len ≤ m := by rw [hmm]; split <;> omega
  have hel : ∀ i : Nat, i < len → ∃ a' : α, ok a' ∧ ∃ c, c.length = d.sz ∧ d.K w a' c ∧ ∀ j u, c[j]? = some u → w.cell? (a.add (i * d.sz + j)) = some u := by
   intro i hil
   obtain ⟨cs', hcs, htr⟩ := hi i (by omega)
   obtain ⟨a', hK, hok⟩ := h H enc w base spare held n cs' _ htr
   rw [hc] at hcs
   obtain ⟨_, hcl, hat⟩ := World.cells?_some hcs
   refine ⟨a', hok, cs', hcl, hK, fun j u hu => ?_⟩
   have hj : j < d.sz := by have := (List.getElem?_eq_some_iff.1 hu).1; omega
   have := hat j hj
   rw [← Go.Deep.add_add, this, hu]
  have hrow : ∀ k : Nat, k ≤ len → ∃ xs : List α, xs.length = k ∧ (∀ x ∈ xs, ok x) ∧ ∀ j p, xs[j]? = some p → ∃ c, c.length = d.sz ∧ d.K w p c ∧ ∀ i u, c[i]? = some u → w.cell? (a.add (j * d.sz + i)) = some u := by
   intro k
   induction k with
   | zero => exact fun _ => ⟨[], rfl, by simp, by simp⟩
   | succ k ih =>
    intro hk
    obtain ⟨xs, h1, h2, h3⟩ := ih (by omega)
    obtain ⟨a', ho, c, hcl, hK, hcell⟩ := hel k (by omega)
    refine ⟨xs ++ [a'], by simp [h1], fun x hx => ?_, fun j p hj => ?_⟩
    ·rcases List.mem_append.1 hx with h | h
     ·exact h2 x h
     ·rw [List.mem_singleton.1 h]; exact ho
    ·by_cases hjk : j < xs.length
     ·rw [List.getElem?_append_left hjk] at hj
      exact h3 j p hj
     ·have hjl := (List.getElem?_eq_some_iff.1 hj).1
      simp at hjl
      have hje : j = k := by omega
      subst hje
      rw [← h1, List.getElem?_concat_length] at hj
      obtain rfl := Option.some.inj hj
      exact ⟨c, hcl, hK, hcell⟩
  obtain ⟨xs, h1, h2, h3⟩ := hrow len (Nat.le_refl _)
  have hmx : len ≤ 9223372036854775807 := by unfold maxLen at hm; omega
  subst h1
  exact ⟨xs, ⟨some a, cap, rfl, hl, rfl, hmx, fun _ => ⟨a, rfl, h3⟩⟩, hmx, h2⟩
theorem opens_iso {P : Program} {t : TypeId} {α β : Type} {d : Kd α} {ok : α → Prop} (h : Opens P t d ok) (f : β → α) (g : α → β) (hfg : ∀ x, f (g x) = x) : Opens P t (Kd.iso d f) (fun y => ok (f y)) := by
 intro H enc w base spare held fuel cs x hx
 obtain ⟨a, hK, hok⟩ := h H enc w base spare held fuel cs x hx
 exact ⟨g a, by show d.K w (f (g a)) cs; rw [hfg]; exact hK, by show ok (f (g a)); rw [hfg]; exact hok⟩
def OpensFs (P : Program) (fs : List Field) (off : Nat) {α : Type} (d : Kd α) (ok : α → Prop) : Prop :=
 ∀ (H : Type) (enc : TypeId × Value → H) (w : World) (base : Nat) (spare : Nat → Bool) (held : Bool) (n : Nat) (cs : List Value), cs.length = off + d.sz →
  (∀ f ∈ fs, ∃ y, DataW.trod enc P w base spare held n f.type ((cs.drop f.offset).take (P.cellsOf f.type)) = some y) → ∃ a : α, d.K w a (cs.drop off) ∧ ok a
theorem fs_one {P : Program} {f : Field} {off : Nat} {α : Type} {d : Kd α} {ok : α → Prop} (ho : f.offset = off) (hc : P.cellsOf f.type = d.sz) (h : Opens P f.type d ok) : OpensFs P [f] off d ok := by
 intro H enc w base spare held n cs hl hf
 obtain ⟨y, hy⟩ := hf f (by simp)
 rw [ho, hc, List.take_of_length_le (by simp; omega)] at hy
 exact h H enc w base spare held n _ y hy
theorem fs_cons {P : Program} {f : Field} {fs : List Field} {off : Nat} {α β : Type} {d : Kd α} {d' : Kd β} {ok : α → Prop} {ok' : β → Prop} (ho : f.offset = off) (hc : P.cellsOf f.type = d.sz) (h : Opens P f.type d ok)
  (hr : OpensFs P fs (off + d.sz) d' ok') : OpensFs P (f :: fs) off (Kd.pair d d') (fun x => ok x.1 ∧ ok' x.2) := by
 intro H enc w base spare held n cs hl hf
 have hsz : (Kd.pair d d').sz = d.sz + d'.sz := rfl
 rw [hsz] at hl
 obtain ⟨y, hy⟩ := hf f (by simp)
 rw [ho, hc] at hy
 obtain ⟨a, hK, hok⟩ := h H enc w base spare held n _ y hy
 obtain ⟨b, hKb, hokb⟩ := hr H enc w base spare held n cs (by omega) (fun f' hf' => hf f' (List.mem_cons_of_mem _ hf'))
 refine ⟨(a, b), ⟨_, _, ?_, hK, hKb⟩, hok, hokb⟩
 rw [← List.drop_drop]
 exact (List.take_append_drop _ _).symm
theorem opens_struct {P : Program} {t : TypeId} {fs : Array Field} {α : Type} {d : Kd α} {ok : α → Prop} (hs : P.underlying t = some (.struct fs)) (hC : P.cellsOf t = d.sz) (h : OpensFs P fs.toList 0 d ok) : Opens P t d ok := by
 intro H enc w base spare held fuel cs x hx
 obtain ⟨xs, n, _, _, hl, hlen, hf⟩ := DataW.trod_struct hs hx
 obtain ⟨a, hK, hok⟩ := h H enc w base spare held n cs (by rw [hl, hC, Nat.zero_add]) (fun f hfm => by
  obtain ⟨j, hj⟩ := List.getElem?_of_mem hfm
  have hj' : fs[j]? = some f := by rw [← hj]; simp
  have hjl : j < xs.length := by rw [hlen]; exact (Array.getElem?_eq_some_iff.1 hj').1
  have h1 := hf j f hj'
  rw [List.getElem?_eq_getElem hjl] at h1
  exact ⟨_, h1⟩)
 exact ⟨a, hK, hok⟩
theorem arg_struct {H : Type} {enc : TypeId × Value → H} {P : Program} {w : World} {base b0 : Nat} {spare : Nat → Bool} {held : Bool} {r : Reach} {t : TypeId} {fs : Array Field} {v : Value} {dd : DataW H} {p : List MemPlace} {α : Type} {d : Kd α} {ok : α → Prop}
  (hs : P.underlying t = some (.struct fs)) (ho : Opens P t d ok) (hv : Value.okWide P w r b0 t v) (h : DataW.Trod enc P w base spare held t v dd p) : ∃ a cs, v = .agg cs ∧ d.K w a cs.toList ∧ ok a := by
 obtain ⟨cs, rfl, hsz⟩ := okWide_struct hs hv
 obtain ⟨fuel, hf⟩ := h
 obtain ⟨a, hK, hok⟩ := ho H enc w base spare held fuel _ _ hf
 exact ⟨a, cs, rfl, by simpa [Value.cells] using hK, hok⟩
theorem arg_slice {H : Type} {enc : TypeId × Value → H} {P : Program} {w : World} {base b0 : Nat} {spare : Nat → Bool} {held : Bool} {r : Reach} {t e : TypeId} {v : Value} {dd : DataW H} {p : List MemPlace} {α : Type} {d : Kd α} {ok : List α → Prop}
  (hs : P.underlying t = some (.slice e)) (ho : Opens P t (Kd.slice e d) ok) (hv : Value.okWide P w r b0 t v) (h : DataW.Trod enc P w base spare held t v dd p) : ∃ A c l, v = .slice A l.length c ∧ l.length ≤ c ∧ d.C w A l.length l ∧ ok l := by
 obtain ⟨A, len, cap, rfl⟩ := okWide_slice hs hv
 obtain ⟨fuel, hf⟩ := h
 obtain ⟨l, ⟨A', c, he, hlc, hC⟩, hok⟩ := ho H enc w base spare held fuel _ _ hf
 simp [Value.cells] at he
 obtain ⟨rfl, rfl, rfl⟩ := he
 exact ⟨A, cap, l, rfl, hlc, hC, hok⟩
end Go.Proofs.Ytkcpanpdipmmmaa.Opn
namespace Go.Proofs.Ytkcpanpdipmmmaa.Q
open Go.RowKit Go.Proofs.YtkcpanpdipmmmaaW.PrintWords Go.Proofs.YtkcpanpdipmmmaaW.PrintLast Go.Proofs.YtkcpanpdipmmmaaW.PrintMore Go.Proofs.Ytkcpanpdipmmmaa.P
open Go.Proofs.Ytkcpanpdipmmmaa.H (endsErr Right right_of StepOf stRoom IsFlow leastR pushW stRoom_in)
theorem flowOk_of {l : List S74} {F : List Int} {n : Nat} (hr : Right l F n) : FlowOk l F := by
 refine ⟨hr.len, fun i hi => ?_⟩
 have := hr.nums i (by rw [← hr.len]; exact hi)
 rw [rd_nat]
 exact ⟨this.2.2.1, this.2.2.2.1⟩
end Go.Proofs.Ytkcpanpdipmmmaa.Q
namespace Go.Proofs.Ytkcpanpdipmmmaa.Q
open Go.RowKit Go.Proofs.YtkcpanpdipmmmaaW.PrintWords Go.Proofs.YtkcpanpdipmmmaaW.PrintLast Go.Proofs.YtkcpanpdipmmmaaW.PrintMore Go.Proofs.Ytkcpanpdipmmmaa.P
open Go.Proofs.Ytkcpanpdipmmmaa.H (endsErr Right right_of StepOf stRoom IsFlow MaxF leastR pushW fillF bfP nodes netG dOf frP toP)
theorem max_fill {l : List S74} {n s t : Nat} (hr : Right l (List.replicate l.length 0) n) (hs : s < n) (ht : t < n) (hst : s ≠ t) : MaxF l (fillF l n s t) n s t := H.fill_max hr hs ht hst
theorem fill_eq {n : Int} {l : List S74} {s t : Int} (b : Bool) (h : endsErr n l s t = 0) : maxflow_Fill.f n b l s t = some (fillF l n.toNat s.toNat t.toNat) := by unfold maxflow_Fill.f; rw [if_pos h]
end Go.Proofs.Ytkcpanpdipmmmaa.Q
namespace Go.Proofs.Ytkcpanpdipmmmaa.Q
open Go.RowKit Go.Proofs.YtkcpanpdipmmmaaW.PrintWords Go.Proofs.YtkcpanpdipmmmaaW.PrintLast Go.Proofs.YtkcpanpdipmmmaaW.PrintMore Go.Proofs.Ytkcpanpdipmmmaa.P
open Go.Proofs.Ytkcpanpdipmmmaa.H (endsErr Right right_of IsFlow MaxF fillF bfP nodes dOf dOf_len dOf_get fnd fnd_none capR capR_cons sideP sideP_iff behindF)
def sd (S : List Bool) (v : Int) : Bool := rdOf false S v
theorem takes_l0 (m : Int) (l : List S74) (S : List Bool) (hn : NetOk m l) (hS : (S.length : Int) = m) (d : Nat) : ∀ (i : Nat) (acc : Int), i + d = l.length → 0 ≤ acc → acc ≤ 1048576 * i →
  Ev (fun k => mincut_takes.l0 k S acc l (l.length : Int) (i : Int)) (acc + capR (sd S) (l.drop i)) := by
 have hl := hn.len
 induction d with
 | zero =>
  intro i acc hi h0 h1
  refine Ev.succ ?_; simp only [mincut_takes.l0]
  refine Ev.neg (by omega) ?_
  rw [List.drop_of_length_le (by omega)]
  exact Ev.done (by simp [capR])
 | succ d ih =>
  intro i acc hi h0 h1
  have ha := hn.at_ (i := (i : Int)) (by omega) (by omega)
  have a0 := ha.f0
  have a1 := ha.f1
  have a2 := ha.f2
  have a3 := ha.h0
  have a4 := ha.h1
  have a5 := ha.h2
  rw [drop_getD l i z74 (by omega), ← rdArc_nat, capR_cons]
  refine Ev.succ ?_; simp only [mincut_takes.l0]
  refine Ev.pos (by omega) ?_
  refine Ev.pos (by omega) ?_
  refine Ev.pos (by omega) ?_
  refine Ev.pos (by omega) ?_
  refine Ev.pos (by omega) ?_
  rw [wrap_succ (n := l.length) (by omega) (by omega)]
  refine Ev.ite (fun g => ?_) (fun g => ?_)
  ·have g1 : sd S (rd_T74 l (i : Int)).f0 = true := g
   refine Ev.pos (by omega) ?_
   refine Ev.pos (by omega) ?_
   refine Ev.ite (fun g2 => ?_) (fun g2 => ?_)
   ·have g3 : sd S (rd_T74 l (i : Int)).f1 = true := g2
    rw [g1, g3, if_neg (by decide)]
    exact Ev.eq (ih (i + 1) _ (by omega) (by omega) (by omega)) (by omega)
   ·have g3 : sd S (rd_T74 l (i : Int)).f1 = false := Bool.eq_false_iff.2 g2
    rw [g1, g3, if_pos (by decide), wrap_id (by omega) (by omega)]
    exact Ev.eq (ih (i + 1) _ (by omega) (by omega) (by omega)) (by omega)
  ·have g1 : sd S (rd_T74 l (i : Int)).f0 = false := Bool.eq_false_iff.2 g
   rw [g1, if_neg (by simp)]
   exact Ev.eq (ih (i + 1) _ (by omega) (by omega) (by omega)) (by omega)
theorem takes_ev (n m : Int) (b : Bool) (l : List S74) (S : List Bool) (hn : NetOk m l) (hS : (S.length : Int) = m) : Ev (fun k => mincut_takes.f k n b l S) (capR (sd S) l) := by
 unfold mincut_takes.f
 exact Ev.eq (takes_l0 m l S hn hS l.length 0 0 (by omega) (by omega) (by omega)) (by rw [List.drop_zero]; omega)
def capaR (n : Int) (l : List S74) (S : List Bool) : Int × Int := if netErr n l = 0 then (if (S.length : Int) = n then (capR (sd S) l, 0) else (0, 1)) else (0, netErr n l)
theorem capacity_ev (n : Int) (b : Bool) (l : List S74) (S : List Bool) : Ev (fun k => mincut_Capacity.f k n b l S) (capaR n l S) := by
 unfold mincut_Capacity.f capaR
 refine Ev.bind (check_ev n b l) ?_
 refine Ev.ite (fun h => ?_) (fun h => ?_)
 ·rw [if_pos h]
  refine Ev.ite (fun g => ?_) (fun g => ?_)
  ·rw [if_pos g]
   exact Ev.bind (takes_ev n n b l S (netErr_ok h) g) (Ev.now _)
  ·rw [if_neg g]; exact Ev.now _
 ·rw [if_neg h]; exact Ev.now _
theorem capa_ok {n : Int} {l : List S74} {S : List Bool} (h : (capaR n l S).2 = 0) : netErr n l = 0 ∧ (S.length : Int) = n ∧ capaR n l S = (capR (sd S) l, 0) := by
 unfold capaR at h ⊢
 by_cases h1 : netErr n l = 0
 ·rw [if_pos h1] at h ⊢
  by_cases h2 : (S.length : Int) = n
  ·rw [if_pos h2]; exact ⟨h1, h2, rfl⟩
  ·rw [if_neg h2] at h; cases h
 ·rw [if_neg h1] at h; exact absurd h h1
theorem capa_is {n : Int} {l : List S74} {S : List Bool} (h1 : netErr n l = 0) (h2 : (S.length : Int) = n) : capaR n l S = (capR (sd S) l, 0) := by unfold capaR; rw [if_pos h1, if_pos h2]
theorem same10_l0 (a : List Bool) (hl : a.length ≤ 1000000) (d : Nat) : ∀ i : Nat, i + d = a.length → Ev (fun k => ebbtideref10_Same.l0 k a a (i : Int)) true := by
 induction d with
 | zero =>
  intro i hi
  refine Ev.succ ?_; simp only [ebbtideref10_Same.l0]
  refine Ev.neg (by omega) ?_
  exact Ev.now _
 | succ d ih =>
  intro i hi
  refine Ev.succ ?_; simp only [ebbtideref10_Same.l0]
  refine Ev.pos (by omega) ?_
  refine Ev.pos (by omega) ?_
  refine Ev.pos (by omega) ?_
  refine Ev.neg (by simp) ?_
  rw [wrap_succ (n := a.length) (by omega) (by omega)]
  exact ih (i + 1) (by omega)
theorem same10_ev (a : List Bool) (hl : a.length ≤ 1000000) : Ev (fun k => ebbtideref10_Same.f k a a) true := by
 unfold ebbtideref10_Same.f
 refine Ev.pos rfl ?_
 exact same10_l0 a hl a.length 0 (by omega)
theorem behind_len (l : List S74) (F : List Int) (n s : Nat) : (behindF l F n s).length = n := by unfold behindF; rw [List.length_map, dOf_len]
theorem behind_get {l : List S74} {F : List Int} {n s v : Nat} (hv : v < n) : sd (behindF l F n s) (v : Int) = decide (v ∈ nodes (bfP l F n s)) := by
 unfold sd rdOf behindF
 rw [Int.toNat_natCast, List.getD_eq_getElem?_getD, List.getElem?_map]
 have hlt : v < (dOf n (bfP l F n s)).length := by rw [dOf_len]; exact hv
 have h := H.dOf_neg (bfP l F n s) 0 hv
 rw [List.getD_eq_getElem?_getD, List.getElem?_eq_getElem hlt] at h
 rw [List.getElem?_eq_getElem hlt]
 simp only [Option.getD_some] at h
 show decide ((dOf n (bfP l F n s))[v] ≥ 0) = _
 by_cases hm : v ∈ nodes (bfP l F n s)
 ·rw [decide_eq_true hm, decide_eq_true]
  have : ¬ (dOf n (bfP l F n s))[v] < 0 := fun g => h.1 g hm
  omega
 ·rw [decide_eq_false hm, decide_eq_false]
  have := h.2 hm
  omega
theorem behind_ext {S T : List Bool} {n : Nat} (h1 : S.length = n) (h2 : T.length = n) (h : ∀ v : Nat, v < n → sd S v = sd T v) : S = T := by
 apply List.ext_getElem (by omega)
 intro i g1 g2
 have := h i (by omega)
 unfold sd rdOf at this
 rw [Int.toNat_natCast, List.getD_eq_getElem?_getD, List.getD_eq_getElem?_getD, List.getElem?_eq_getElem g1, List.getElem?_eq_getElem g2] at this
 simpa using this
theorem behind_same {l : List S74} {F G : List Int} {n s t : Nat} (h : MaxF l F n s t) (g : MaxF l G n s t) (hs : s < n) (hst : s ≠ t) : behindF l F n s = behindF l G n s := by
 refine behind_ext (behind_len _ _ _ _) (behind_len _ _ _ _) fun v hv => ?_
 rw [behind_get hv, behind_get hv]
 exact decide_eq_decide.2 (H.side_same h g hs hst v)
theorem capR_congr {R Q : Int → Bool} {n : Int} : ∀ {l : List S74}, (∀ a ∈ l, ArcOk n a) → (∀ v : Int, 0 ≤ v → v < n → R v = Q v) → capR R l = capR Q l
 | [], _, _ => rfl
 | a :: l, ha, h => by
  have h1 := ha a List.mem_cons_self
  rw [capR_cons, capR_cons, h _ h1.f0 h1.h0, h _ h1.f1 h1.h1, capR_congr (fun b hb => ha b (List.mem_cons_of_mem _ hb)) h]
theorem behind_cap {l : List S74} {F : List Int} {n s t : Nat} (hn : NetOk n l) (h : MaxF l F n s t) (hs : s < n) (hst : s ≠ t) : capR (sd (behindF l F n s)) l = bal l F s := by
 rw [(H.max_value h hs hst).1]
 refine capR_congr hn.arcs fun v h0 h1 => ?_
 obtain ⟨v, rfl⟩ : ∃ v' : Nat, v = v' := ⟨v.toNat, by omega⟩
 rw [behind_get (by omega)]
 unfold sideP
 rw [Int.toNat_natCast]
 exact decide_eq_decide.2 ⟨fun g => ⟨by omega, g⟩, fun g => g.2⟩
def leastS (n : Int) (l : List S74) (s t : Int) : List Bool × Int × Int :=
 if endsErr n l s t = 0 then (behindF l (fillF l n.toNat s.toNat t.toNat) n.toNat s.toNat, bal l (fillF l n.toNat s.toNat t.toNat) s, 0) else ([], 0, endsErr n l s t)
theorem leastS_nat {l : List S74} {n s t : Nat} (h : endsErr (n : Int) l (s : Int) (t : Int) = 0) : leastS n l s t = (behindF l (fillF l n s t) n s, bal l (fillF l n s t) s, 0) := by
 unfold leastS; rw [if_pos h]; simp only [Int.toNat_natCast]
theorem leastS_no {l : List S74} {n s t : Int} (h : ¬ endsErr n l s t = 0) : leastS n l s t = ([], 0, endsErr n l s t) := by unfold leastS; rw [if_neg h]
theorem least_ev (n : Int) (b : Bool) (l : List S74) (s t : Int) : Ev (fun k => mincut_Least.f k n b l s t) (leastS n l s t) := by
 unfold mincut_Least.f
 refine Ev.bind (ends_ev n b l s t) ?_
 by_cases h : endsErr n l s t = 0
 ·refine Ev.pos h ?_
  refine Ev.call (fill_eq b h) ?_
  obtain ⟨n0, s0, t0, rfl, rfl, rfl, hs, ht, hst, hn, hr⟩ := ends_zero h
  rw [leastS_nat h]
  simp only [Int.toNat_natCast]
  have hM := max_fill hr hs ht hst
  have ha := ask_of hn (flowOk_of hM.flow.right)
  have hB : mincut_Behind.f (n0 : Int) b l (fillF l n0 s0 t0) (s0 : Int) = some (behindF l (fillF l n0 s0 t0) n0 s0) := by
   unfold mincut_Behind.f
   rw [if_pos ⟨ha, by omega, by omega⟩, Int.toNat_natCast, Int.toNat_natCast]
  refine Ev.call hB ?_
  refine Ev.bind (takes_ev n0 n0 b l _ hn (by rw [behind_len])) ?_
  exact Ev.done (by rw [behind_cap hn hM hs hst])
 ·rw [leastS_no h]
  refine Ev.neg h ?_
  exact Ev.now _
end Go.Proofs.Ytkcpanpdipmmmaa.Q
namespace Go.Proofs.Ytkcpanpdipmmmaa.Q
open Go.RowKit Go.Proofs.YtkcpanpdipmmmaaW.PrintWords Go.Proofs.YtkcpanpdipmmmaaW.PrintLast Go.Proofs.YtkcpanpdipmmmaaW.PrintMore Go.Proofs.Ytkcpanpdipmmmaa.P
open Go.Proofs.Ytkcpanpdipmmmaa.H (endsErr Right right_of IsFlow MaxF fillF bfP nodes dOf dOf_len capR capR_cons sideP sideP_iff behindF)
def two10 : List S74 := [(⟨0, 1, 3, 0⟩ : S74), (⟨1, 2, 1, 0⟩ : S74)]
theorem two10_right : Right two10 (List.replicate two10.length 0) 3 := by
 obtain ⟨n0, h1, h2⟩ := right_of (n := 3) (l := two10) (F := List.replicate two10.length 0) (by decide +kernel)
 obtain rfl : n0 = 3 := by omega
 exact h2
theorem two10_max : MaxF two10 (fillF two10 3 0 2) 3 0 2 := max_fill two10_right (by decide) (by decide) (by decide)
theorem two10_top : MaxF two10 [1, 1] 3 0 2 := by
 obtain ⟨n0, h1, h2⟩ := right_of (n := 3) (l := two10) (F := [1, 1]) (by decide +kernel)
 obtain rfl : n0 = 3 := by omega
 refine ⟨⟨h2, fun v a b c d => ?_⟩, by decide +kernel⟩
 obtain rfl : v = 1 := by omega
 decide +kernel
theorem awake10_ev : Ev (fun k => ebbtidelaw10_awake.f k) true := by
 have e1 : endsErr 3 two10 0 2 = 0 := by decide +kernel
 have v1 : bal two10 (fillF two10 3 0 2) 0 = 1 := by
  have h_ := H.max_same (s := 0) (t := 2) two10_max two10_top (by decide) (by decide)
  have h_2 : bal two10 [1, 1] ((0 : Nat) : Int) = 1 := by decide +kernel
  rw [h_2] at h_
  exact h_
 have v2 : behindF two10 (fillF two10 3 0 2) 3 0 = [true, true, false] := by
  rw [behind_same (s := 0) (t := 2) two10_max two10_top (by decide) (by decide)]
  decide +kernel
 have m1 : leastS 3 two10 0 2 = ([true, true, false], 1, 0) := by
  have h_ := leastS_nat (n := 3) (l := two10) (s := 0) (t := 2) e1
  have h_2 : leastS 3 two10 0 2 = (behindF two10 (fillF two10 3 0 2) 3 0, bal two10 (fillF two10 3 0 2) 0, 0) := h_
  rw [h_2, v1, v2]
 have m2 : capaR 3 two10 [true, false, false] = (3, 0) := by decide +kernel
 unfold ebbtidelaw10_awake.f
 refine Ev.let_ ?_
 refine Ev.bind (least_ev 3 false two10 0 2) ?_
 refine Ev.bind (capacity_ev 3 false two10 _) ?_
 rw [m1, m2]
 refine Ev.pos rfl ?_
 refine Ev.pos rfl ?_
 refine Ev.bind (same10_ev [true, true, false] (by decide)) ?_
 refine Ev.pos rfl ?_
 refine Ev.pos rfl ?_
 exact Ev.now _
def andS (A B : List Bool) (i : Nat) : List Bool := (List.range i).map fun v : Nat => sd A v && sd B v
def orS (A B : List Bool) (i : Nat) : List Bool := (List.range i).map fun v : Nat => sd A v || sd B v
theorem andS_succ (A B : List Bool) (i : Nat) : andS A B (i + 1) = andS A B i ++ [sd A i && sd B i] := by unfold andS; rw [List.range_succ, List.map_append]; rfl
theorem orS_succ (A B : List Bool) (i : Nat) : orS A B (i + 1) = orS A B i ++ [sd A i || sd B i] := by unfold orS; rw [List.range_succ, List.map_append]; rfl
theorem andS_get (A B : List Bool) {i v : Nat} (h : v < i) : sd (andS A B i) v = (sd A v && sd B v) := by
 have e : sd (andS A B i) (v : Int) = (andS A B i).getD v false := by unfold sd rdOf; rw [Int.toNat_natCast]
 rw [e, List.getD_eq_getElem?_getD]
 unfold andS
 rw [List.getElem?_map, List.getElem?_range h]
 rfl
theorem orS_get (A B : List Bool) {i v : Nat} (h : v < i) : sd (orS A B i) v = (sd A v || sd B v) := by
 have e : sd (orS A B i) (v : Int) = (orS A B i).getD v false := by unfold sd rdOf; rw [Int.toNat_natCast]
 rw [e, List.getD_eq_getElem?_getD]
 unfold orS
 rw [List.getElem?_map, List.getElem?_range h]
 rfl
theorem sums_l0 {n : Int} (b : Bool) {l : List S74} {A B : List Bool} (h0 : netErr n l = 0) (hA : (A.length : Int) = n) (hB : (B.length : Int) = n) (d : Nat) : ∀ i : Nat, i + d = A.length →
  Ev (fun k => ebbtidelaw10_MincutSums.l0 k A B true (capR (sd A) l) (capR (sd B) l) (andS A B i) (orS A B i) (i : Int) n b l) true := by
 have hn := netErr_ok h0
 have hhi := hn.hi
 induction d with
 | zero =>
  intro i hi
  have l1 : (andS A B i).length = i := by simp [andS]
  have l2 : (orS A B i).length = i := by simp [orS]
  refine Ev.succ ?_; simp only [ebbtidelaw10_MincutSums.l0]
  refine Ev.neg (by omega) ?_
  refine Ev.bind (capacity_ev n b l _) ?_
  refine Ev.bind (capacity_ev n b l _) ?_
  rw [capa_is h0 (by rw [l1]; omega), capa_is h0 (by rw [l2]; omega)]
  refine Ev.pos (by first | trivial | rfl) ?_
  refine Ev.pos rfl ?_
  refine Ev.pos rfl ?_
  refine Ev.done (decide_eq_true ?_)
  have hc : ∀ a, a ∈ l → 0 ≤ a.f2 ∧ a.f2 ≤ 1048576 := fun a ha => ⟨(hn.arcs a ha).f2, (hn.arcs a ha).h2⟩
  have key := H.capR_two (sd A) (sd B) l (fun a ha => (hc a ha).1)
  have e1 : capR (sd (andS A B i)) l = capR (fun v => sd A v && sd B v) l := capR_congr hn.arcs fun v g0 g1 => by
   obtain ⟨v, rfl⟩ : ∃ v' : Nat, v = v' := ⟨v.toNat, by omega⟩
   exact andS_get A B (by omega)
  have e2 : capR (sd (orS A B i)) l = capR (fun v => sd A v || sd B v) l := capR_congr hn.arcs fun v g0 g1 => by
   obtain ⟨v, rfl⟩ : ∃ v' : Nat, v = v' := ⟨v.toNat, by omega⟩
   exact orS_get A B (by omega)
  have b1 := H.capR_top (sd A) l hc
  have b2 := H.capR_top (sd B) l hc
  have b3 := H.capR_top (sd (andS A B i)) l hc
  have b4 := H.capR_top (sd (orS A B i)) l hc
  have hlen := hn.len
  rw [← e1, ← e2] at key
  show wrap64 (capR (sd (andS A B i)) l + capR (sd (orS A B i)) l) ≤ wrap64 (capR (sd A) l + capR (sd B) l)
  rw [wrap_id (by omega) (by omega), wrap_id (by omega) (by omega)]
  exact key
 | succ d ih =>
  intro i hi
  have hnx := ih (i + 1) (by omega)
  rw [andS_succ, orS_succ] at hnx
  have l1 : (andS A B i).length = i := by simp [andS]
  have l2 : (orS A B i).length = i := by simp [orS]
  refine Ev.succ ?_; simp only [ebbtidelaw10_MincutSums.l0]
  refine Ev.pos (by omega) ?_
  refine Ev.pos (by omega) ?_
  rw [wrap_succ (n := A.length) (by omega) (by omega)]
  refine Ev.ite (fun g => ?_) (fun g => ?_)
  ·have g1 : sd A (i : Int) = true := g
   rw [g1, Bool.true_and, Bool.true_or] at hnx
   refine Ev.pos (by omega) ?_
   refine Ev.pos (by rw [l1]; omega) ?_
   refine Ev.pos (by rw [l2]; omega) ?_
   exact hnx
  ·have g1 : sd A (i : Int) = false := Bool.eq_false_iff.2 g
   rw [g1, Bool.false_and, Bool.false_or] at hnx
   refine Ev.pos (by rw [l1]; omega) ?_
   refine Ev.pos (by omega) ?_
   refine Ev.pos (by rw [l2]; omega) ?_
   exact hnx
theorem mincutSums_ev (n : Int) (b : Bool) (l : List S74) (A B : List Bool) : Ev (fun k => ebbtidelaw10_MincutSums.f k n b l A B) true := by
 unfold ebbtidelaw10_MincutSums.f
 refine Ev.bind awake10_ev ?_
 refine Ev.pos rfl ?_
 refine Ev.bind (capacity_ev n b l A) ?_
 refine Ev.bind (capacity_ev n b l B) ?_
 refine Ev.ite (fun h1 => ?_) (fun h1 => ?_)
 ·by_cases h2 : (capaR n l B).2 = 0
  ·obtain ⟨c1, c2, c3⟩ := capa_ok h1
   obtain ⟨d1, d2, d3⟩ := capa_ok h2
   rw [c3, d3]
   refine Ev.succ ?_; simp only [ebbtidelaw10_MincutSums.j0]
   refine Ev.neg (by simp) ?_
   exact sums_l0 b c1 c2 d2 A.length 0 (by omega)
  ·refine Ev.succ ?_; simp only [ebbtidelaw10_MincutSums.j0]
   refine Ev.pos (by rw [bne_iff_ne]; exact h2) ?_
   exact Ev.now _
 ·refine Ev.succ ?_; simp only [ebbtidelaw10_MincutSums.j0]
  refine Ev.pos (by first | trivial | rfl) ?_
  exact Ev.now _
end Go.Proofs.Ytkcpanpdipmmmaa.Q
