/- What the law's row needs of these texts, taken out of them by wip/tool/mini.py: P88 P102 QAwake13 QLengthsLaw QDecLengths P908 QOpen QLDecLengths. -/
import Derived.Test.YtoedkglggapggaaMejgebm
import Derived.Test.YtoedkglggapggaaMlibifl
import Derived.Test.YtoedkglggapggaaMgjaola
import Derived.Lib.LazyBuf
import Derived.Deep.RegionHeld3
import Derived.Deep.DeepCutAuto
import Derived.Test.YtoedkglggapggaaVhpaoob
import Derived.Deep.Slices
import Derived.Deep.Fields
import Derived.ChangeSame
import Derived.ChangeArms
import Derived.OpenShut
set_option linter.unusedVariables false
set_option linter.unusedSimpArgs false
open Go.RowKit Go.Proofs.YtoedkglggapggaaW.PrintWords Go.Proofs.YtoedkglggapggaaW.PrintLast Go.Proofs.YtoedkglggapggaaW.PrintMore
namespace Go.Proofs.Ytoedkglggapggaa
namespace P
attribute [local go_sem] max2_int min2_int max_two min_two max_three min_three max_four min_four
def ebbtidelaw13_awake.f (k:Nat)  :Option (Bool):=(ebbtidelaw13_loop.f).bind fun bt519=>((decomp_Split.f bt519.1 bt519.2.1 bt519.2.2 0 2 (([1,2,1]:List Int))).bind fun bt527=>((ebbtidelaw13_loop.f).bind fun bt534=>((decomp_Lengths.f k bt534.1 bt534.2.1 bt534.2.2 bt527.1).bind fun bt539=>(if bt527.2.2=0 then(if bt539.2=0 then((ebbtideref13_Same.f k bt527.1 (([(⟨(([0,1]:List Int)),1⟩:S47)]:List (S47)))).bind fun t549=>(if t549=true then((ebbtideref13_Same.f k bt527.2.1 (([(⟨(([1,2]:List Int)),1⟩:S47)]:List (S47)))).bind fun t556=>(if t556=true then((ebbtideref03_SameInts.f k bt539.1 (([2]:List Int))).bind fun t560=>(some t560)) else(some false))) else(some false))) else(some false)) else(some false)))))
theorem ebbtidelaw13_awake.mono: ∀ k,LeO (ebbtidelaw13_awake.f k ) (ebbtidelaw13_awake.f (k+1) ):=by
 intro  k;unfold ebbtidelaw13_awake.f;repeat' first
   |(with_reducible exact decomp_Lengths.mono _ _ _ _ _)
   |(with_reducible exact ebbtideref03_SameInts.mono _ _ _)
   |(with_reducible exact ebbtideref13_Same.mono _ _ _)
   |(with_reducible exact LeO.refl _)
   |(with_reducible exact LeO.none _)
   |(with_reducible refine LeO.ite ?_ ?_)
   |(with_reducible refine LeO.bind ?_ (fun _=> ?_))
   |refine LeO.ite ?_ ?_
   |refine LeO.bind ?_ (fun _=> ?_)
set_option maxHeartbeats 8000000 in
set_option maxRecDepth 100000 in
theorem ebbtidelaw13_awake.calls (k:Nat)  (r:Bool) (w:World) (h:ebbtidelaw13_awake.f k  =some r) (hrT_:r=true:=by first|rfl|exact Aside0.out (by assumption)):
  Calls Try.prog 18 #[] w fun e w'=>e= .returned (.bool r)∧Below w.heap.size w w':=by
 have HRT:=Ya hrT_;clear hrT_;have hu47:=Try.underlying47;have HB:=Ya (Yo w.heap.size w);have H:=h;unfold ebbtidelaw13_awake.f at H;clear h;replace H:=Option.bind_eq_some_iff.mp H;obtain⟨⟨t519,t520,t521⟩,A10,H⟩:=H;dsimp only at H;have A1:=Ya A10;clear A10;obtain⟨y524,hy524⟩: ∃ y_:List Int,y_=(([1,2,1]:List Int)):=⟨_,rfl⟩;rw[← hy524] at H;have Ny524:=Ya hy524;clear hy524;replace H:=Option.bind_eq_some_iff.mp H;obtain⟨⟨t527,t530,t533⟩,A20,H⟩:=H;dsimp only at H;have A2:=Ya A20;clear A20;replace H:=Option.bind_eq_some_iff.mp H;obtain⟨⟨t534,t535,t536⟩,A30,H⟩:=H;dsimp only at H;have A3:=Ya A30;clear A30;replace H:=Option.bind_eq_some_iff.mp H;obtain⟨⟨t539,t542⟩,A40,H⟩:=H;dsimp only at H;have A4:=Ya A40;clear A40;by_cases c5:t533=0
 rotate_left
 ·rw[Yv c5] at H
  exact absurd (Option.some.inj H) (by rw[HRT.out];decide)
 rw[Yu c5] at H;have c5b0:(t533 == 0)=true:=beq_iff_eq.mpr c5;have c5b1:(t533 != 0)=false:=bne_eq_false_iff_eq.mpr c5;clear c5;by_cases c6:t542=0
 rotate_left
 ·rw[Yv c6] at H
  exact absurd (Option.some.inj H) (by rw[HRT.out];decide)
 rw[Yu c6] at H;have c6b0:(t542 == 0)=true:=beq_iff_eq.mpr c6;have c6b1:(t542 != 0)=false:=bne_eq_false_iff_eq.mpr c6;clear c6;obtain⟨y543,hy543⟩: ∃ y_:List Int,y_=(([0,1]:List Int)):=⟨_,rfl⟩;rw[← hy543] at H;have Ny543:=Ya hy543;clear hy543;obtain⟨y546,hy546⟩: ∃ y_:List (S47),y_=(([(⟨y543,1⟩:S47)]:List (S47))):=⟨_,rfl⟩;rw[← hy546] at H;have Ny546:=Ya hy546;clear hy546;replace H:=Option.bind_eq_some_iff.mp H;obtain⟨t549,A70,H⟩:=H;replace H:(if t549=true then((ebbtideref13_Same.f k t530 (([(⟨(([1,2]:List Int)),1⟩:S47)]:List (S47)))).bind fun t556=>(if t556=true then((ebbtideref03_SameInts.f k t539 (([2]:List Int))).bind fun t560=>(some t560)) else(some false))) else(some false))=some r:=H;have A7:=Ya A70;clear A70;by_cases c8:t549=true
 rotate_left
 ·replace c8:=Bool.eq_false_iff.mpr c8
  subst c8;have H1:(some false)=some r:=by rw[Yv (show ¬ (false=true) by decide)] at H;exact H
  exact absurd (Option.some.inj H1) (by rw[HRT.out];decide)
 subst c8;first|rw[Yu rfl] at H|rw[Yu trivial] at H
 obtain⟨y550,hy550⟩: ∃ y_:List Int,y_=(([1,2]:List Int)):=⟨_,rfl⟩;rw[← hy550] at H;have Ny550:=Ya hy550;clear hy550;obtain⟨y553,hy553⟩: ∃ y_:List (S47),y_=(([(⟨y550,1⟩:S47)]:List (S47))):=⟨_,rfl⟩;rw[← hy553] at H;have Ny553:=Ya hy553;clear hy553;replace H:=Option.bind_eq_some_iff.mp H;obtain⟨t556,A90,H⟩:=H;replace H:(if t556=true then((ebbtideref03_SameInts.f k t539 (([2]:List Int))).bind fun t560=>(some t560)) else(some false))=some r:=H;have A9:=Ya A90;clear A90;by_cases c10:t556=true
 rotate_left
 ·replace c10:=Bool.eq_false_iff.mpr c10
  subst c10;have H1:(some false)=some r:=by rw[Yv (show ¬ (false=true) by decide)] at H;exact H
  exact absurd (Option.some.inj H1) (by rw[HRT.out];decide)
 subst c10;first|rw[Yu rfl] at H|rw[Yu trivial] at H
 obtain⟨y557,hy557⟩: ∃ y_:List Int,y_=(([2]:List Int)):=⟨_,rfl⟩;rw[← hy557] at H;have Ny557:=Ya hy557;clear hy557;replace H:=Option.bind_eq_some_iff.mp H;obtain⟨t560,A110,H⟩:=H;replace H:(some t560)=some r:=H;have A11:=Ya A110;clear A110;obtain rfl:=Option.some.inj H;go_enter Try.func18,Try.ntmps18;go_wp2_with (first|((with_reducible refine gate_callee (f:=45) rfl ?_);refine gl (some 7) Try.func45 #[] ?_;(with_reducible refine(ebbtidelaw13_loop.calls  t519 t520 t521 _ A1.out).mono ?_);rintro e w12 ⟨v522,rfl,ho0,hb⟩;refine⟨_,rfl,?_⟩;have Xt:=Ya (Kd.R_lower ho0 (Yi bl));replace HB:=Ya (Yk bl hb);(try clear hb);(try clear ho0))|((with_reducible refine gate_dst (N:=8) rfl ?_);(try (refine gate_guard (by rfl) ?_;dsimp only));refine Kd.R_lit (Kd.int .i64) _ 3 ?hg (N:=8) ?hd (xs:=([1,2,1]:List Int)) (inner:=[.int .i64 1, .int .i64 2, .int .i64 1]) (ok:=fun _=>True) (okp:=fun _=>True) ?hr ?hp (fun _ hk=>hk) trivial (Yo _ _) (Nat.le_refl _) (by simp) ?_;(case hd=>rfl);(case hg=>rfl);(case hr=>first|(go_simp;done)|(go_simp;rfl));(case hp=>exact(Reps.one (show Kd.M (Kd.int .i64) _ _ _ 1 [.int .i64 1] from rfl) (Reps.one (show Kd.M (Kd.int .i64) _ _ _ 2 [.int .i64 2] from rfl) (Reps.one (show Kd.M (Kd.int .i64) _ _ _ 1 [.int .i64 1] from rfl) (Reps.none _ _)))));intro v525 w13 ho14 hb hg_ hnew_;clear hg_ hnew_;(first|rw[← Ny524.out] at ho14|(simp only[Int.reduceToNat] at ho14;rw[← Ny524.out] at ho14));replace Xt:=Ya (Yp (kR Xt) hb);have Xz:=Ya (Kd.R_lower ho14 (Yi bl));replace HB:=Ya (Yk bl hb);clear hb ho14;obtain⟨Ao15,co15,eo15⟩:=Kd.R_slice Xt.out;subst eo15;obtain⟨Ao16,co16,eo16⟩:=Kd.R_slice Xz.out;subst eo16)|((with_reducible refine gate_callee (f:=19) rfl ?_);refine gl (some 9) Try.func19 #[.agg #[.int .i64 t519, .bool t520, .slice Ao15 t521.length co15], .int .i64 0, .int .i64 2, .slice Ao16 y524.length co16] ?_;(with_reducible refine(decomp_Split.calls t519 t520 _ _ t521 0 2 _ _ y524 t527 t530 t533 _ ?side1 ?side2 ?side3 ?side4 A2.out).mono ?_);(case side1=>exact kC (Kd.R_reads' Xt.out).2.2);(case side2=>exact(Kd.R_reads' Xt.out).2.1);(case side3=>exact kC (Kd.R_reads' Xz.out).2.2);(case side4=>exact(Kd.R_reads' Xz.out).2.1);rintro e w17 ⟨v528,v531,rfl,ho0,ho1,hb⟩;refine⟨_,rfl,?_⟩;have Wb:=Ya (Kd.N_lower (Kd.N_mono (ok':=fun k_=>some k_≠(v531:Value).ownBlock∧some k_≠(.slice Ao15 t521.length co15:Value).ownBlock∧some k_≠(.slice Ao16 y524.length co16:Value).ownBlock) (Kd.S_N (Kd.S_bound ho0)) (fun k_ hk_=>⟨hk_.1,(Kd.fresh' (Kd.R_lt (kR Xt)) k_ hk_.2.1),(Kd.fresh' (Kd.R_lt (kR Xz)) k_ hk_.2.1)⟩)) (Yi bl));have Wg:=Ya (Kd.N_lower (Kd.N_mono (ok':=fun k_=>some k_≠(v528:Value).ownBlock∧some k_≠(.slice Ao15 t521.length co15:Value).ownBlock∧some k_≠(.slice Ao16 y524.length co16:Value).ownBlock) (Kd.S_N (Kd.S_bound ho1)) (fun k_ hk_=>⟨hk_.1,(Kd.fresh' (Kd.R_lt (kR Xt)) k_ hk_.2.1),(Kd.fresh' (Kd.R_lt (kR Xz)) k_ hk_.2.1)⟩)) (Yi bl));replace Xt:=Ya (Yp (kR Xt) hb);replace Xz:=Ya (Yp (kR Xz) hb);replace HB:=Ya (Yk bl hb);(try clear hb);(try clear hb2);(try clear hk);(try clear hi);(try clear ho0);(try clear ho1))|((with_reducible refine gate_callee (f:=45) rfl ?_);refine gl (some 14) Try.func45 #[] ?_;(with_reducible refine(ebbtidelaw13_loop.calls  t534 t535 t536 _ A3.out).mono ?_);rintro e w18 ⟨v537,rfl,ho0,hb⟩;refine⟨_,rfl,?_⟩;replace Xz:=Ya (Yp (kR Xz) hb);replace Wb:=Ya (Kd.N_elder' (kN Wb) (Kd.R_base ho0) hb);replace Wg:=Ya (Kd.N_elder' (kN Wg) (Kd.R_base ho0) hb);have Wq:=Ya (Kd.R_lower (Kd.R_new' ho0 (Kd.R_lt (kR Xt))) (Yi bl));replace Xt:=Ya (Kd.R_elder' (kR Xt) (Kd.R_base ho0) hb);replace HB:=Ya (Yk bl hb);(try clear hb);(try clear hb2);(try clear hk);(try clear hi);(try clear ho0);obtain⟨Ao19,co19,eo19⟩:=Kd.R_slice Wq.out;subst eo19;obtain⟨Ao20,co20,eo20⟩:=Kd.N_slice Wb.out;subst eo20)|((with_reducible refine gate_callee (f:=29) rfl ?_);refine gl (some 16) Try.func29 #[.agg #[.int .i64 t534, .bool t535, .slice Ao19 t536.length co19], .slice Ao20 t527.length co20] ?_;(with_reducible refine(decomp_Lengths.calls k t534 t535 _ _ t536 _ _ t527 t539 t542 _ ?side1 ?side2 ?side3 ?side4 A4.out).mono ?_);(case side1=>exact kC (Kd.R_reads' Wq.out).2.2);(case side2=>exact(Kd.R_reads' Wq.out).2.1);(case side3=>exact kC (Kd.N_reads' Wb.out).2.2);(case side4=>exact(Kd.N_reads' Wb.out).2.1);rintro e w21 ⟨v540,rfl,ho0,hb⟩;refine⟨_,rfl,?_⟩;replace Xt:=Ya (Yp (kR Xt) hb);replace Wb:=Ya (Kd.N_elder' (kN Wb) (Kd.R_base ho0) hb);replace Wg:=Ya (Kd.N_elder' (kN Wg) (Kd.R_base ho0) hb);replace Wq:=Ya (Yp (kR Wq) hb);have Wu:=Ya (Kd.R_lower (Kd.R_new' ho0 (Kd.R_lt (kR Xz))) (Yi bl));replace Xz:=Ya (Kd.R_elder' (kR Xz) (Kd.R_base ho0) hb);replace HB:=Ya (Yk bl hb);(try clear hb);(try clear hb2);(try clear hk);(try clear hi);(try clear ho0))|((with_reducible refine gate_dst (N:=27) rfl ?_);(try (refine gate_guard (by rfl) ?_;dsimp only));refine Kd.R_lit (Kd.int .i64) _ 3 ?hg (N:=27) ?hd (xs:=([0,1]:List Int)) (inner:=[.int .i64 0, .int .i64 1]) (ok:=fun _=>True) (okp:=fun _=>True) ?hr ?hp (fun _ hk=>hk) trivial (Yo _ _) (Nat.le_refl _) (by simp) ?_;(case hd=>rfl);(case hg=>rfl);(case hr=>first|(go_simp;done)|(go_simp;rfl));(case hp=>exact(Reps.one (show Kd.M (Kd.int .i64) _ _ _ 0 [.int .i64 0] from rfl) (Reps.one (show Kd.M (Kd.int .i64) _ _ _ 1 [.int .i64 1] from rfl) (Reps.none _ _))));intro v544 w22 ho23 hb hg_ hnew_;clear hg_ hnew_;(first|rw[← Ny543.out] at ho23|(simp only[Int.reduceToNat] at ho23;rw[← Ny543.out] at ho23));replace Xt:=Ya (Yp (kR Xt) hb);replace Wb:=Ya (Kd.N_elder' (kN Wb) (Kd.R_base ho23) hb);replace Wg:=Ya (Kd.N_elder' (kN Wg) (Kd.R_base ho23) hb);replace Wq:=Ya (Yp (kR Wq) hb);have HO545:=Ya (Kd.R_lower (Kd.R_new' (Kd.R_new' ho23 (Kd.R_lt (kR Xz))) (Kd.R_lt (kR Wu))) (Yi bl));replace Xz:=Ya (Kd.R_elder' (kR Xz) (Kd.R_base ho23) hb);replace Wu:=Ya (Kd.R_elder' (kR Wu) (Kd.R_base ho23) hb);replace HB:=Ya (Yk bl hb);clear hb ho23;obtain⟨Ao24,co24,eo24⟩:=Kd.R_slice HO545.out;subst eo24)|((with_reducible refine gate_dst (N:=29) rfl ?_);(try (refine gate_guard (by rfl) ?_;dsimp only));refine Kd.N_lit k47 _ 47 ?hg (N':=29) ?hd (xs:=([(⟨y543,1⟩:S47)]:List (S47))) (inner:=[.slice Ao24 y543.length co24, .int .i64 1]) (ok:=(fun k_=>some k_≠(.slice Ao15 t521.length co15:Value).ownBlock∧some k_≠(.slice Ao16 y524.length co16:Value).ownBlock∧some k_≠(.slice Ao20 t527.length co20:Value).ownBlock∧some k_≠(v531:Value).ownBlock∧some k_≠(.slice Ao19 t536.length co19:Value).ownBlock∧some k_≠(v540:Value).ownBlock)) (okp:=(fun k_=>some k_≠(.slice Ao15 t521.length co15:Value).ownBlock∧some k_≠(.slice Ao16 y524.length co16:Value).ownBlock∧some k_≠(.slice Ao20 t527.length co20:Value).ownBlock∧some k_≠(v531:Value).ownBlock∧some k_≠(.slice Ao19 t536.length co19:Value).ownBlock∧some k_≠(v540:Value).ownBlock)) ?hr ?hp (fun _ hk=>hk) ((show ∀ k_,w22.heap.size≤k_→(fun k_=>some k_≠(.slice Ao15 t521.length co15:Value).ownBlock∧some k_≠(.slice Ao16 y524.length co16:Value).ownBlock∧some k_≠(.slice Ao20 t527.length co20:Value).ownBlock∧some k_≠(v531:Value).ownBlock∧some k_≠(.slice Ao19 t536.length co19:Value).ownBlock∧some k_≠(v540:Value).ownBlock) k_ from fun k_ hk=>⟨Kd.fresh' (Kd.R_lt (kR Xt)) k_ hk,Kd.fresh' (Kd.R_lt (kR Xz)) k_ hk,Kd.fresh' (Kd.N_lt (kN Wb)) k_ hk,Kd.fresh' (Kd.N_lt (kN Wg)) k_ hk,Kd.fresh' (Kd.R_lt (kR Wq)) k_ hk,Kd.fresh' (Kd.R_lt (kR Wu)) k_ hk⟩) _ (Nat.le_refl _)) (Yo _ _) (Nat.le_refl _) (by simp) ?_;(case hd=>rfl);(case hg=>rfl);(case hr=>first|(go_simp;done)|(go_simp;rfl));(case hp=>exact(Reps.c2 (show Kd.FK k47 _ _ (⟨y543,1⟩:S47) [.slice Ao24 y543.length co24, .int .i64 1] from(k47_mkF _ _ (⟨y543,1⟩:S47) (Kd.R_reads' (Kd.R_mono (ok':=(fun k_=>some k_≠(.slice Ao15 t521.length co15:Value).ownBlock∧some k_≠(.slice Ao16 y524.length co16:Value).ownBlock∧some k_≠(.slice Ao20 t527.length co20:Value).ownBlock∧some k_≠(v531:Value).ownBlock∧some k_≠(.slice Ao19 t536.length co19:Value).ownBlock∧some k_≠(v540:Value).ownBlock)) (Kd.R_apart' (Kd.R_apart' (Kd.R_apart' (Kd.R_apart' (HO545.out) (Kd.R_typed Xt.out) (by decide)) (Kd.N_typed Wb.out) (by decide)) (Kd.N_typed Wg.out) (by decide)) (Kd.R_typed Wq.out) (by decide)) (fun k_ hk=>⟨hk.1.1.1.2,⟨hk.1.1.1.1.1.2,⟨hk.1.1.2,⟨hk.1.2,⟨hk.2,hk.1.1.1.1.2⟩⟩⟩⟩⟩))).2.1 (Kd.R_F (Kd.R_mono (ok':=(fun k_=>some k_≠(.slice Ao15 t521.length co15:Value).ownBlock∧some k_≠(.slice Ao16 y524.length co16:Value).ownBlock∧some k_≠(.slice Ao20 t527.length co20:Value).ownBlock∧some k_≠(v531:Value).ownBlock∧some k_≠(.slice Ao19 t536.length co19:Value).ownBlock∧some k_≠(v540:Value).ownBlock)) (Kd.R_apart' (Kd.R_apart' (Kd.R_apart' (Kd.R_apart' (HO545.out) (Kd.R_typed Xt.out) (by decide)) (Kd.N_typed Wb.out) (by decide)) (Kd.N_typed Wg.out) (by decide)) (Kd.R_typed Wq.out) (by decide)) (fun k_ hk=>⟨hk.1.1.1.2,⟨hk.1.1.1.1.1.2,⟨hk.1.1.2,⟨hk.1.2,⟨hk.2,hk.1.1.1.1.2⟩⟩⟩⟩⟩))))) (Reps.none _ _)));intro v547 w25 ho26 hb hg_ hnew_;clear hg_ hnew_;(first|rw[← Ny546.out] at ho26|(simp only[Int.reduceToNat] at ho26;rw[← Ny546.out] at ho26));replace Xt:=Ya (Yp (kR Xt) hb);replace Xz:=Ya (Yp (kR Xz) hb);replace Wb:=Ya (Kd.N_elder' (kN Wb) (Kd.N_base ho26) hb);replace Wg:=Ya (Kd.N_elder' (kN Wg) (Kd.N_base ho26) hb);replace Wq:=Ya (Yp (kR Wq) hb);replace Wu:=Ya (Yp (kR Wu) hb);have Uk:=Ya (Kd.N_lower ho26 (Yi bl));replace HB:=Ya (Yk bl hb);clear HO545;clear hb ho26;obtain⟨Ao27,co27,eo27⟩:=Kd.N_slice Uk.out;subst eo27)|(go_at_call 26;(with_reducible refine(ebbtideref13_Same.calls k _ _ t527 _ _ y546 true _ ?side1 ?side2 ?side3 ?side4 A7.out).mono ?_);(case side1=>exact kC (Kd.N_reads' Wb.out).2.2);(case side2=>exact(Kd.N_reads' Wb.out).2.1);(case side3=>exact kC (Kd.N_reads' Uk.out).2.2);(case side4=>exact(Kd.N_reads' Uk.out).2.1);rintro e w' ⟨rfl,⟨nd,rfl⟩⟩)|((with_reducible refine gate_dst (N:=34) rfl ?_);(try (refine gate_guard (by rfl) ?_;dsimp only));refine Kd.R_lit (Kd.int .i64) _ 3 ?hg (N:=34) ?hd (xs:=([1,2]:List Int)) (inner:=[.int .i64 1, .int .i64 2]) (ok:=fun _=>True) (okp:=fun _=>True) ?hr ?hp (fun _ hk=>hk) trivial (Yo _ _) (Nat.le_refl _) (by simp) ?_;(case hd=>rfl);(case hg=>rfl);(case hr=>first|(go_simp;done)|(go_simp;rfl));(case hp=>exact(Reps.one (show Kd.M (Kd.int .i64) _ _ _ 1 [.int .i64 1] from rfl) (Reps.one (show Kd.M (Kd.int .i64) _ _ _ 2 [.int .i64 2] from rfl) (Reps.none _ _))));intro v551 w28 ho29 hb hg_ hnew_;clear hg_ hnew_;(first|rw[← Ny550.out] at ho29|(simp only[Int.reduceToNat] at ho29;rw[← Ny550.out] at ho29));replace Xt:=Ya (Yp (kR Xt) hb);replace Wb:=Ya (Kd.N_elder' (kN Wb) (Kd.R_base ho29) hb);replace Wg:=Ya (Kd.N_elder' (kN Wg) (Kd.R_base ho29) hb);replace Wq:=Ya (Yp (kR Wq) hb);replace Uk:=Ya (Kd.N_elder' (kN Uk) (Kd.R_base ho29) hb);have HO552:=Ya (Kd.R_lower (Kd.R_new' (Kd.R_new' ho29 (Kd.R_lt (kR Xz))) (Kd.R_lt (kR Wu))) (Yi bl));replace Xz:=Ya (Kd.R_elder' (kR Xz) (Kd.R_base ho29) hb);replace Wu:=Ya (Kd.R_elder' (kR Wu) (Kd.R_base ho29) hb);replace HB:=Ya (Yk bl hb);clear hb ho29;obtain⟨Ao30,co30,eo30⟩:=Kd.R_slice HO552.out;subst eo30)|((with_reducible refine gate_dst (N:=36) rfl ?_);(try (refine gate_guard (by rfl) ?_;dsimp only));refine Kd.N_lit k47 _ 47 ?hg (N':=36) ?hd (xs:=([(⟨y550,1⟩:S47)]:List (S47))) (inner:=[.slice Ao30 y550.length co30, .int .i64 1]) (ok:=(fun k_=>some k_≠(.slice Ao15 t521.length co15:Value).ownBlock∧some k_≠(.slice Ao16 y524.length co16:Value).ownBlock∧some k_≠(.slice Ao20 t527.length co20:Value).ownBlock∧some k_≠(v531:Value).ownBlock∧some k_≠(.slice Ao19 t536.length co19:Value).ownBlock∧some k_≠(v540:Value).ownBlock∧some k_≠(.slice Ao27 y546.length co27:Value).ownBlock)) (okp:=(fun k_=>some k_≠(.slice Ao15 t521.length co15:Value).ownBlock∧some k_≠(.slice Ao16 y524.length co16:Value).ownBlock∧some k_≠(.slice Ao20 t527.length co20:Value).ownBlock∧some k_≠(v531:Value).ownBlock∧some k_≠(.slice Ao19 t536.length co19:Value).ownBlock∧some k_≠(v540:Value).ownBlock∧some k_≠(.slice Ao27 y546.length co27:Value).ownBlock)) ?hr ?hp (fun _ hk=>hk) ((show ∀ k_,w28.heap.size≤k_→(fun k_=>some k_≠(.slice Ao15 t521.length co15:Value).ownBlock∧some k_≠(.slice Ao16 y524.length co16:Value).ownBlock∧some k_≠(.slice Ao20 t527.length co20:Value).ownBlock∧some k_≠(v531:Value).ownBlock∧some k_≠(.slice Ao19 t536.length co19:Value).ownBlock∧some k_≠(v540:Value).ownBlock∧some k_≠(.slice Ao27 y546.length co27:Value).ownBlock) k_ from fun k_ hk=>⟨Kd.fresh' (Kd.R_lt (kR Xt)) k_ hk,Kd.fresh' (Kd.R_lt (kR Xz)) k_ hk,Kd.fresh' (Kd.N_lt (kN Wb)) k_ hk,Kd.fresh' (Kd.N_lt (kN Wg)) k_ hk,Kd.fresh' (Kd.R_lt (kR Wq)) k_ hk,Kd.fresh' (Kd.R_lt (kR Wu)) k_ hk,Kd.fresh' (Kd.N_lt (kN Uk)) k_ hk⟩) _ (Nat.le_refl _)) (Yo _ _) (Nat.le_refl _) (by simp) ?_;(case hd=>rfl);(case hg=>rfl);(case hr=>first|(go_simp;done)|(go_simp;rfl));(case hp=>exact(Reps.c2 (show Kd.FK k47 _ _ (⟨y550,1⟩:S47) [.slice Ao30 y550.length co30, .int .i64 1] from(k47_mkF _ _ (⟨y550,1⟩:S47) (Kd.R_reads' (Kd.R_mono (ok':=(fun k_=>some k_≠(.slice Ao15 t521.length co15:Value).ownBlock∧some k_≠(.slice Ao16 y524.length co16:Value).ownBlock∧some k_≠(.slice Ao20 t527.length co20:Value).ownBlock∧some k_≠(v531:Value).ownBlock∧some k_≠(.slice Ao19 t536.length co19:Value).ownBlock∧some k_≠(v540:Value).ownBlock∧some k_≠(.slice Ao27 y546.length co27:Value).ownBlock)) (Kd.R_apart' (Kd.R_apart' (Kd.R_apart' (Kd.R_apart' (Kd.R_apart' (HO552.out) (Kd.R_typed Xt.out) (by decide)) (Kd.N_typed Wb.out) (by decide)) (Kd.N_typed Wg.out) (by decide)) (Kd.R_typed Wq.out) (by decide)) (Kd.N_typed Uk.out) (by decide)) (fun k_ hk=>⟨hk.1.1.1.1.2,⟨hk.1.1.1.1.1.1.2,⟨hk.1.1.1.2,⟨hk.1.1.2,⟨hk.1.2,⟨hk.1.1.1.1.1.2,hk.2⟩⟩⟩⟩⟩⟩))).2.1 (Kd.R_F (Kd.R_mono (ok':=(fun k_=>some k_≠(.slice Ao15 t521.length co15:Value).ownBlock∧some k_≠(.slice Ao16 y524.length co16:Value).ownBlock∧some k_≠(.slice Ao20 t527.length co20:Value).ownBlock∧some k_≠(v531:Value).ownBlock∧some k_≠(.slice Ao19 t536.length co19:Value).ownBlock∧some k_≠(v540:Value).ownBlock∧some k_≠(.slice Ao27 y546.length co27:Value).ownBlock)) (Kd.R_apart' (Kd.R_apart' (Kd.R_apart' (Kd.R_apart' (Kd.R_apart' (HO552.out) (Kd.R_typed Xt.out) (by decide)) (Kd.N_typed Wb.out) (by decide)) (Kd.N_typed Wg.out) (by decide)) (Kd.R_typed Wq.out) (by decide)) (Kd.N_typed Uk.out) (by decide)) (fun k_ hk=>⟨hk.1.1.1.1.2,⟨hk.1.1.1.1.1.1.2,⟨hk.1.1.1.2,⟨hk.1.1.2,⟨hk.1.2,⟨hk.1.1.1.1.1.2,hk.2⟩⟩⟩⟩⟩⟩))))) (Reps.none _ _)));intro v554 w31 ho32 hb hg_ hnew_;clear hg_ hnew_;(first|rw[← Ny553.out] at ho32|(simp only[Int.reduceToNat] at ho32;rw[← Ny553.out] at ho32));replace Xt:=Ya (Yp (kR Xt) hb);replace Xz:=Ya (Yp (kR Xz) hb);replace Wb:=Ya (Kd.N_elder' (kN Wb) (Kd.N_base ho32) hb);replace Wg:=Ya (Kd.N_elder' (kN Wg) (Kd.N_base ho32) hb);replace Wq:=Ya (Yp (kR Wq) hb);replace Wu:=Ya (Yp (kR Wu) hb);replace Uk:=Ya (Kd.N_elder' (kN Uk) (Kd.N_base ho32) hb);have HO555:=Ya (Kd.N_lower ho32 (Yi bl));replace HB:=Ya (Yk bl hb);clear HO552;clear hb ho32;obtain⟨Ao33,co33,eo33⟩:=Kd.N_slice Wg.out;subst eo33;obtain⟨Ao34,co34,eo34⟩:=Kd.N_slice HO555.out;subst eo34)|(go_at_call 26;(with_reducible refine(ebbtideref13_Same.calls k _ _ t530 _ _ y553 true _ ?side1 ?side2 ?side3 ?side4 A9.out).mono ?_);(case side1=>exact kC (Kd.N_reads' Wg.out).2.2);(case side2=>exact(Kd.N_reads' Wg.out).2.1);(case side3=>exact kC (Kd.N_reads' HO555.out).2.2);(case side4=>exact(Kd.N_reads' HO555.out).2.1);rintro e w' ⟨rfl,⟨nd,rfl⟩⟩)|((with_reducible refine gate_dst (N:=41) rfl ?_);(try (refine gate_guard (by rfl) ?_;dsimp only));refine Kd.R_lit (Kd.int .i64) _ 3 ?hg (N:=41) ?hd (xs:=([2]:List Int)) (inner:=[.int .i64 2]) (ok:=fun _=>True) (okp:=fun _=>True) ?hr ?hp (fun _ hk=>hk) trivial (Yo _ _) (Nat.le_refl _) (by simp) ?_;(case hd=>rfl);(case hg=>rfl);(case hr=>first|(go_simp;done)|(go_simp;rfl));(case hp=>exact(Reps.one (show Kd.M (Kd.int .i64) _ _ _ 2 [.int .i64 2] from rfl) (Reps.none _ _)));intro v558 w35 ho36 hb hg_ hnew_;clear hg_ hnew_;(first|rw[← Ny557.out] at ho36|(simp only[Int.reduceToNat] at ho36;rw[← Ny557.out] at ho36));replace Xt:=Ya (Yp (kR Xt) hb);replace Wb:=Ya (Kd.N_elder' (kN Wb) (Kd.R_base ho36) hb);replace Wg:=Ya (Kd.N_elder' (kN Wg) (Kd.R_base ho36) hb);replace Wq:=Ya (Yp (kR Wq) hb);replace Uk:=Ya (Kd.N_elder' (kN Uk) (Kd.R_base ho36) hb);replace HO555:=Ya (Kd.N_elder' (kN HO555) (Kd.R_base ho36) hb);have HO559:=Ya (Kd.R_lower (Kd.R_new' (Kd.R_new' ho36 (Kd.R_lt (kR Xz))) (Kd.R_lt (kR Wu))) (Yi bl));replace Xz:=Ya (Kd.R_elder' (kR Xz) (Kd.R_base ho36) hb);replace Wu:=Ya (Kd.R_elder' (kR Wu) (Kd.R_base ho36) hb);replace HB:=Ya (Yk bl hb);clear hb ho36;obtain⟨Ao37,co37,eo37⟩:=Kd.R_slice Wu.out;subst eo37;obtain⟨Ao38,co38,eo38⟩:=Kd.R_slice HO559.out;subst eo38)|(go_at_call 22;(with_reducible refine(ebbtideref03_SameInts.calls k _ _ t539 _ _ y557 t560 _ ?side1 ?side2 ?side3 ?side4 A11.out).mono ?_);(case side1=>exact kC (Kd.R_reads' Wu.out).2.2);(case side2=>exact(Kd.R_reads' Wu.out).2.1);(case side3=>exact kC (Kd.R_reads' HO559.out).2.2);(case side4=>exact(Kd.R_reads' HO559.out).2.1);rintro e w' ⟨rfl,⟨nd,rfl⟩⟩));go_ret;exact⟨by first|rfl|(simp[errW_none,errW_some]<;>rfl)|(simp[*,errW_none,errW_some]<;>rfl),bl⟩
end P
namespace P
attribute [local go_sem] max2_int min2_int max_two min_two max_three min_three max_four min_four
def ebbtideref13_Length.l0:Nat→List Int→Int→Int→Int→Bool→List (S50)→Option (Int)
 |0,_,_,_,_,_,_=>none
 |k+1,x1,x5,x6,x701000,x701001,x701002=>if x6<(x1.length:Int) then(if 0≤x6 then(if 0≤(rd x1 x6) then(if (rd x1 x6)<(x701002.length:Int) then(ebbtideref13_Length.l0 k x1 (wrap64 (x5+((rd_T50 x701002 (rd x1 x6)).f3))) (wrap64 (x6+1)) x701000 x701001 x701002) else(none)) else(none)) else(none)) else(some x5)
def ebbtideref13_Length.f (k:Nat) (Zb:Int) (Zc:Bool) (Za:List (S50)) (l1:List Int):Option (Int):=ebbtideref13_Length.l0 k l1 0 0 Zb Zc Za
set_option maxHeartbeats 8000000 in
set_option maxRecDepth 100000 in
theorem ebbtideref13_Length.calls (k:Nat) (Zb:Int) (Zc:Bool) (Zf:Option Addr) (Ze:Nat) (Za:List (S50)) (A1:Option Addr) (c1:Nat) (l1:List Int) (r:Int) (w:World) (Zq:Kd.C k50 w Zf Za.length Za) (Zr:Za.length≤Ze) (hr1:Kd.C (Kd.int .i64) w A1 l1.length l1) (hc1:l1.length≤c1) (h:ebbtideref13_Length.f k Zb Zc Za l1=some r):
  Calls Try.prog 31 #[.agg #[.int .i64 Zb, .bool Zc, .slice Zf Za.length Ze], .slice A1 l1.length c1] w fun e w'=>e= .returned (.int .i64 r)∧Below w.heap.size w w':=by
 have hu24:=Try.underlying24;have Zo:=Ya Zq;have Xo:=Ya Zr;clear Zq Zr;have HR1:=Ya hr1;have HC1:=Ya hc1;clear hr1 hc1;have HB:=Ya (Yo w.heap.size w);have H:=h;unfold ebbtideref13_Length.f at H;clear h;have H':=Ya H;clear H;go_enter Try.func31,Try.ntmps31;go_wp2_with (first|(refine bx 2 24 #[.int .i64 Zb, .bool Zc, .slice Zf Za.length Ze] ?_;intro gb700 hg w3 Zg hb;have Us:=Ya (Zg);have GW700:=Ya ((sz hg));have GE700:=Ya ((sz hg));replace HB:=Ya (Yk bl hb);clear hb Zg hg));repeat(go_quiet (first|(refine bx 2 24 #[.int .i64 Zb, .bool Zc, .slice Zf Za.length Ze] ?_;intro gb700 hg w3 Zg hb;have Us:=Ya (Zg);have GW700:=Ya ((sz hg));have GE700:=Ya ((sz hg));replace HB:=Ya (Yk bl hb);clear hb Zg hg));try go_wp2_with (first|(refine bx 2 24 #[.int .i64 Zb, .bool Zc, .slice Zf Za.length Ze] ?_;intro gb700 hg w3 Zg hb;have Us:=Ya (Zg);have GW700:=Ya ((sz hg));have GE700:=Ya ((sz hg));replace HB:=Ya (Yk bl hb);clear hb Zg hg)))
 go_loopg [5,6] k (fun kq v5 v6 w'=> ∃ (Zj:Int) (Uc:Int),v5= .int .i64 Zj∧v6= .int .i64 Uc∧Aside0 (ebbtideref13_Length.l0 kq l1 Zj Uc Zb Zc Za=some r)∧Aside0 (kq≤k)∧Aside0 (w'.heap[gb700]? =some (.cells #[.int .i64 Zb, .bool Zc,(.slice Zf Za.length Ze)] 24 (0,0)))∧Aside0 (Below w.heap.size w w'))
 case atStart=>exact⟨(0),(0),(by first|rfl|(simp;done)|(simp[*];done)),(by first|rfl|(simp;done)|(simp[*];done)),H',⟨Nat.le_refl _⟩,⟨Us.out⟩,⟨HB.out⟩⟩
 case round=>
  clear H';try clear c1
  obtain⟨Zj,Uc,rfl,rfl,HA,HK1,Us,HB⟩:=hrel;cases gk with
  |zero=>exact absurd HA.out (by simp[ebbtideref13_Length.l0])
  |succ k1=>
   have H:=HA.out;clear HA;simp only[ebbtideref13_Length.l0] at H;by_cases c4:Uc<(l1.length:Int)
   rotate_left
   ·rw[Yv c4] at H
    have c4b0:decide (Uc<(l1.length:Int))=false:=Yt c4;clear c4;obtain rfl:=Option.some.inj H;go_wp2;repeat(go_quiet (fail);try go_wp2)
    go_ret;exact⟨by first|rfl|(simp[errW_none,errW_some]<;>rfl)|(simp[*,errW_none,errW_some]<;>rfl),HB.out⟩
   rw[Yu c4] at H;have c4b0:decide (Uc<(l1.length:Int))=true:=Ys c4;clear c4;by_cases c5:0≤Uc
   rotate_left
   ·rw[Yv c5] at H
    exact absurd H (by simp)
   rw[Yu c5] at H;have c5b0:decide (0≤Uc)=true:=Ys c5;clear c5;by_cases c6:0≤(rd l1 Uc)
   rotate_left
   ·rw[Yv c6] at H
    exact absurd H (by simp)
   rw[Yu c6] at H;have c6b0:decide (0≤(rd l1 Uc))=true:=Ys c6;clear c6;by_cases c7:(rd l1 Uc)<(Za.length:Int)
   rotate_left
   ·rw[Yv c7] at H
    exact absurd H (by simp)
   rw[Yu c7] at H;have c7b0:decide ((rd l1 Uc)<(Za.length:Int))=true:=Ys c7;clear c7;have H':=Ya H;clear H;have Wi:wr.cell? ⟨gb700,0,none⟩=some (.int .i64 Zb):=bc Us 0;have Wj:wr.cell? ⟨gb700,1,none⟩=some (.bool Zc):=bc Us 1;have Wk:wr.cell? ⟨gb700,2,none⟩=some (.slice Zf Za.length Ze):=bc Us 2;have Wl:=Yf Us.out 0;have Wm:=Yf Us.out 1;have Wn:=Yf Us.out 2;have p701:0≤(Uc:Int):=od;have q701:Uc<(l1.length:Int):=od;obtain⟨ad701,e701,hx701_0⟩:=Kd.at_int HR1.out Uc p701 q701;cases e701;replace hx701_0:=hc HB hx701_0;replace p701:=eq_true p701;replace q701:=eq_true q701;have p702:0≤((rd l1 Uc):Int):=od;have q702:(rd l1 Uc)<(Za.length:Int):=od;obtain⟨ad702,e702,hx702_0,hx702_1,hx702_2,hx702_3⟩:=at_T50 Zo.out (rd l1 Uc) p702 q702;cases e702;replace hx702_0:=hc HB hx702_0;replace hx702_1:=hc HB hx702_1;replace hx702_2:=hc HB hx702_2;replace hx702_3:=hc HB hx702_3;replace p702:=eq_true p702;replace q702:=eq_true q702;go_wp2;repeat(go_quiet (fail);try go_wp2)
   go_roundg k1
   case measure=>have:=HK1.out;omega
   case rel=>exact⟨(wrap64 (Zj+((rd_T50 Za (rd l1 Uc)).f3))),(wrap64 (Uc+1)),(by first|rfl|(simp;done)|(simp[*];done)),(by first|rfl|(simp;done)|(simp[*];done)),H',⟨by have:=HK1.out;omega⟩,⟨bk Us⟩,⟨bl⟩⟩
end P
namespace Q
open P
theorem awake13_at:ebbtidelaw13_awake.f 100=some true:=by decide +kernel
theorem awake13_ev:Ev (fun k=>ebbtidelaw13_awake.f k) true:=Ev.of ebbtidelaw13_awake.mono awake13_at
end Q
namespace Q
open P
def lenF (l:List S50) (k:Int) (ax:List Int):Int:=ax.foldl (fun k a=>wrap64 (k+(rd_T50 l a).f3)) k
def okA (l:List S50) (ax:List Int):Bool:=ax.all fun a=>decide (0≤a∧a<(l.length:Int))
def lenRes (n:Int) (l:List S50) (cs:List S47):List Int × Int:=
 if netErr n l=0 then(if (cs.all fun c=>okA l c.f0)=true then(cs.map fun c:S47=>lenF l 0 c.f0,0) else([],1)) else([],netErr n l)
theorem okA_cons (l:List S50) (a:Int) (ax:List Int):okA l (a::ax)=(decide (0≤a∧a<(l.length:Int)) && okA l ax):=by unfold okA;rw[List.all_cons]
theorem lengths_l1 (n:Int) (b:Bool) (l:List S50) (cs:List S47) (hcs:cs.length≤1000000) (ax:List Int) (hax:ax.length≤9223372036854775807) (i:Nat) (hi:i<cs.length) (R:List Int × Int) (d:Nat): ∀ (j:Nat) (X:List Int),j+d=ax.length→X.length=cs.length→
  (okA l (ax.drop j)=true→Ev (fun k=>decomp_Lengths.l0 k (X.set i (lenF l (X.getD i 0) (ax.drop j))) cs (cs.length:Int) ((i+1:Nat):Int) n b l) R)→
  Ev (fun k=>decomp_Lengths.l1 k X (i:Int) cs (cs.length:Int) (i:Int) ax (ax.length:Int) (j:Int) n b l) (if okA l (ax.drop j)=true then R else([],1)):=by
 induction d with
 |zero=>
  intro j X hj hX hR;have hd:ax.drop j=[]:=List.drop_of_length_le (by omega);rw[hd] at hR ⊢;rw[Yu (show okA l []=true from rfl)];have h:=hR rfl;have e:X.set i (lenF l (X.getD i 0) [])=X:=by
   apply List.ext_getElem?;intro m;rw[List.getElem?_set];by_cases hm:i=m
   ·subst hm
    rw[Yu rfl,Yu (by omega)];show some (X.getD i 0)=_;rw[List.getD_eq_getElem?_getD,List.getElem?_eq_getElem (by omega)];rfl
   ·rw[Yv hm]
  rw[e] at h;refine Ev.succ ?_;simp only[decomp_Lengths.l1];refine Ev.neg (by omega) ?_;rw[wrap_succ (n:=cs.length) (by omega) (by omega)];exact h
 |succ d ih=>
  intro j X hj hX hR;have hd:=drop_getD ax j 0 (by omega);rw[hd] at hR ⊢;rw[okA_cons] at hR ⊢;refine Ev.succ ?_;simp only[decomp_Lengths.l1];refine Ev.pos (by omega) ?_;refine Ev.pos (by omega) ?_;refine Ev.pos (by omega) ?_;rw[rd_nat];by_cases h0:ax.getD j 0<0
  ·refine Ev.pos h0 ?_
   rw[Yt (by omega),Bool.false_and,Yv (by simp)];exact Ev.now _
  refine Ev.neg h0 ?_;by_cases h1:ax.getD j 0≥(l.length:Int)
  ·refine Ev.pos h1 ?_
   rw[Yt (by omega),Bool.false_and,Yv (by simp)];exact Ev.now _
  refine Ev.neg h1 ?_;rw[Ys (by omega),Bool.true_and] at hR ⊢;refine Ev.pos (by omega) ?_;refine Ev.pos (by omega) ?_;refine Ev.pos (by omega) ?_;refine Ev.pos (by omega) ?_;rw[wrap_succ (n:=ax.length) (by omega) (by omega),rd_nat,Int.toNat_natCast];refine ih (j+1) _ (by omega) (by rw[List.length_set];exact hX) fun hok=> ?_
  have h2:=hR hok;rw[List.set_set,H.getD_set_eq _ _ _ _ (by omega)];exact h2
theorem lengths_l0 (n:Int) (b:Bool) (l:List S50) (cs:List S47) (hcs:cs.length≤1000000) (hax: ∀ c,c∈cs→c.f0.length≤9223372036854775807) (d:Nat): ∀ i:Nat,i+d=cs.length→
  Ev (fun k=>decomp_Lengths.l0 k ((cs.map fun c:S47=>lenF l 0 c.f0).take i ++ List.replicate (cs.length - i) 0) cs (cs.length:Int) (i:Int) n b l) (if ((cs.drop i).all fun c=>okA l c.f0)=true then(cs.map fun c:S47=>lenF l 0 c.f0,0) else([],1)):=by
 induction d with
 |zero=>
  intro i hi;have e:i=cs.length:=by omega
  subst e;rw[List.drop_of_length_le (Nat.le_refl _),List.all_nil,Yu (show true=true from rfl)];refine Ev.succ ?_;simp only[decomp_Lengths.l0];refine Ev.neg (by omega) ?_;exact Ev.done (by rw[Nat.sub_self,List.replicate_zero,List.append_nil,List.take_of_length_le (by rw[List.length_map];exact Nat.le_refl _)])
 |succ d ih=>
  intro i hi;have hil:i<cs.length:=by omega
  have hd:=drop_getD cs i z47 hil;have hg:rd_T47 cs (i:Int)=cs.getD i z47:=by unfold rd_T47;rw[Int.toNat_natCast]
  rw[hd,List.all_cons];refine Ev.succ ?_;simp only[decomp_Lengths.l0];refine Ev.pos (by omega) ?_;refine Ev.pos (by omega) ?_;refine Ev.pos (by omega) ?_;rw[hg];obtain⟨c,hc⟩: ∃ c,c=cs.getD i z47:=⟨_,rfl⟩;rw[← hc];have hcm:c∈cs:=by rw[hc];exact getD_mem hil
  have hXl:((cs.map fun c:S47=>lenF l 0 c.f0).take i ++ List.replicate (cs.length - i) 0).length=cs.length:=by rw[List.length_append,List.length_take,List.length_map,List.length_replicate];omega
  have hXi:((cs.map fun c:S47=>lenF l 0 c.f0).take i ++ List.replicate (cs.length - i) 0).getD i 0=0:=by
   rw[List.getD_eq_getElem?_getD,List.getElem?_append_right (by rw[List.length_take,List.length_map];omega),List.getElem?_replicate];split<;>rfl
  have hmi:(cs.map fun c:S47=>lenF l 0 c.f0).getD i 0=lenF l 0 c.f0:=by
   rw[hc,List.getD_eq_getElem?_getD,List.getElem?_map,List.getElem?_eq_getElem hil,List.getD_eq_getElem?_getD,List.getElem?_eq_getElem hil];rfl
  have hset:=H.getD_take_app (n:=cs.length) (X:=cs.map fun c:S47=>lenF l 0 c.f0) hil (List.length_map ..);rw[hmi] at hset;have h:=lengths_l1 n b l cs hcs c.f0 (hax c hcm) i hil (if ((cs.drop (i+1)).all fun c=>okA l c.f0)=true then(cs.map fun c:S47=>lenF l 0 c.f0,0) else([],1)) c.f0.length 0 _ (by omega) hXl (fun _=>by
   rw[hXi,List.drop_zero,hset];exact ih (i+1) (by omega))
  rw[List.drop_zero] at h;refine Ev.eq h ?_;cases okA l c.f0<;>simp
theorem lengths_ev (n:Int) (b:Bool) (l:List S50) (cs:List S47) (hcs:cs.length≤1000000) (hax: ∀ c,c∈cs→c.f0.length≤9223372036854775807):Ev (fun k=>decomp_Lengths.f k n b l cs) (lenRes n l cs):=by
 unfold decomp_Lengths.f lenRes;refine Ev.bind (check_ev n b l) ?_;by_cases h0:netErr n l=0
 ·refine Ev.pos h0 ?_
  rw[Yu h0];refine Ev.pos (by omega) ?_;rw[Int.toNat_natCast];refine Ev.pos (by omega) ?_;have h:=lengths_l0 n b l cs hcs hax cs.length 0 (by omega);rw[List.take_zero,List.nil_append,Nat.sub_zero,List.drop_zero] at h;exact h
 ·refine Ev.neg h0 ?_
  rw[Yv h0];exact Ev.now _
theorem ref_len_l0 (n:Int) (b:Bool) (l:List S50) (ax:List Int) (hax:ax.length≤1000000) (hok:okA l ax=true) (d:Nat): ∀ (j:Nat) (acc:Int),j+d=ax.length→Ev (fun k=>ebbtideref13_Length.l0 k ax acc (j:Int) n b l) (lenF l acc (ax.drop j)):=by
 induction d with
 |zero=>
  intro j acc hj;refine Ev.succ ?_;simp only[ebbtideref13_Length.l0];refine Ev.neg (by omega) ?_;exact Ev.done (by rw[List.drop_of_length_le (by omega)];rfl)
 |succ d ih=>
  intro j acc hj;have hd:=drop_getD ax j 0 (by omega);have hm:ax.getD j 0∈ax:=getD_mem (by omega);unfold okA at hok;have hv:=Yr (List.all_eq_true.1 hok _ hm);rw[hd];refine Ev.succ ?_;simp only[ebbtideref13_Length.l0];refine Ev.pos (by omega) ?_;refine Ev.pos (by omega) ?_;rw[rd_nat];refine Ev.pos hv.1 ?_;refine Ev.pos hv.2 ?_;rw[wrap_succ (n:=ax.length) (by omega) (by omega)];exact ih (j+1) _ (by omega)
theorem ref_len_ev (n:Int) (b:Bool) (l:List S50) (ax:List Int) (hax:ax.length≤1000000) (hok:okA l ax=true):Ev (fun k=>ebbtideref13_Length.f k n b l ax) (lenF l 0 ax):=by
 unfold ebbtideref13_Length.f;exact Ev.eq (ref_len_l0 n b l ax hax hok ax.length 0 0 (by omega)) (by rw[List.drop_zero])
end Q
namespace H
open P Q
attribute [local irreducible] wpQuiet
theorem inner_le {w:World} {A:Option Addr} {cs:List S47} (h:Kd.C k47 w A cs.length cs): ∀ c,c∈cs→c.f0.length≤9223372036854775807:=by
 intro c hc;obtain⟨i,hi,e⟩:=List.getElem_of_mem hc;obtain⟨_,A0,c0,_,_,_,_,h4⟩:=at_T47 h (i:Int) (by omega) (by omega);have h5:rd_T47 cs (i:Int)=c:=by unfold rd_T47;rw[Int.toNat_natCast,List.getD_eq_getElem?_getD,List.getElem?_eq_getElem hi,e];rfl
 rw[h5] at h4;exact h4.2.1
theorem all_ok {l:List S50} {cs:List S47} (h: ∀ j:Nat,j<cs.length→okA l (cs.getD j z47).f0=true):(cs.all fun c=>okA l c.f0)=true:=by
 rw[List.all_eq_true];intro c hc;obtain⟨i,hi,e⟩:=List.getElem_of_mem hc;have h1:=h i hi;rw[List.getD_eq_getElem?_getD,List.getElem?_eq_getElem hi] at h1;rw[← e];exact h1
theorem not_ok {l:List S50} {cs:List S47} {i j:Nat} (hi:i<cs.length) (hj:j<(cs.getD i z47).f0.length) (h: ¬ (0≤(cs.getD i z47).f0.getD j 0∧(cs.getD i z47).f0.getD j 0<(l.length:Int))):(cs.all fun c=>okA l c.f0)=false:=by
 rw[List.all_eq_false];refine⟨cs.getD i z47,getD_mem hi,?_⟩;rw[Bool.not_eq_true];unfold okA;rw[List.all_eq_false];exact⟨_,getD_mem (d:=(0:Int)) hj,by rw[decide_eq_true_eq];exact h⟩
theorem ok_of {l:List S50} {ax:List Int} (h: ∀ j:Nat,j<ax.length→0≤ax.getD j 0∧ax.getD j 0<(l.length:Int)):okA l ax=true:=by
 unfold okA;rw[List.all_eq_true];intro x hx;obtain⟨i,hi,e⟩:=List.getElem_of_mem hx;have h1:=h i hi;rw[List.getD_eq_getElem?_getD,List.getElem?_eq_getElem hi] at h1;rw[decide_eq_true_eq, ← e];exact h1
set_option maxHeartbeats 8000000 in
set_option maxRecDepth 100000 in
theorem ebbtidelaw13_DecompLengths_calls (Zb:Int) (Zc:Bool) (Zf:Option Addr) (Ze:Nat) (l:List S50) (A1:Option Addr) (c1:Nat) (cs:List S47) (r:Bool) (w:World) (Zq:Kd.C k50 w Zf l.length l) (Zr:l.length≤Ze) (hr1:Kd.C k47 w A1 cs.length cs) (hc1:cs.length≤c1) (h:some true=some r):
  Calls Try.prog 8 #[.agg #[.int .i64 Zb, .bool Zc, .slice Zf l.length Ze], .slice A1 cs.length c1] w fun e w'=>e= .returned (.bool r)∧Below w.heap.size w w':=by
 have hu24:=Try.underlying24;have hu102:=Try.underlying47;injection h with h
 subst h;obtain⟨K3,hK3⟩:=awake13_ev;have hm3:=hK3 K3 (Nat.le_refl _);have HM3:=Ya hm3;have H2:=Ya Zq;have HC2:=Ya Zr;have H1:=Ya hr1;have HC1:=Ya hc1;clear hK3 hm3 Zq Zr hr1 hc1;by_cases hl:(100:Int)<(cs.length:Int)
 ·have d1:decide ((100:Int)<(cs.length:Int))=true:=Ys hl
  clear hl;go_enter Try.func8,Try.ntmps8;go_wp2_with (first|((with_reducible refine gate_dst (N:=2) rfl ?_);refine Yw ?hg (N:=2) ?hd (cs:= #[.int .i64 Zb, .bool Zc, .slice Zf l.length Ze]) (t:=24) ?hr ?_;(case hd=>rfl);(case hg=>rfl);(case hr=>first|(go_simp;done)|(go_simp;rfl));intro g3 hg3 w5 Zg hb;have B3:=Ya Zg;have HB:=Ya hb;clear hg3 Zg hb;have x0:w5.cell? ⟨g3,0,none⟩=some (.int .i64 Zb):=(Yc B3.out 0).trans rfl;have x1:w5.cell? ⟨g3,1,none⟩=some (.bool Zc):=(Yc B3.out 1).trans rfl;have x2:w5.cell? ⟨g3,2,none⟩=some (.slice Zf l.length Ze):=(Yc B3.out 2).trans rfl)|(go_at_call 18;refine(ebbtidelaw13_awake.calls K3 true _ HM3.out).mono ?_;rintro e_ w6 ⟨rfl,hb⟩;have m0_:=Ya (Yk HB.out hb);have m1_:=Ya (Yn B3.out hb);clear HB B3 hb x0 x1 x2;have HB:=m0_;have B3:=m1_;clear m0_ m1_;have x0:w6.cell? ⟨g3,0,none⟩=some (.int .i64 Zb):=(Yc B3.out 0).trans rfl;have x1:w6.cell? ⟨g3,1,none⟩=some (.bool Zc):=(Yc B3.out 1).trans rfl;have x2:w6.cell? ⟨g3,2,none⟩=some (.slice Zf l.length Ze):=(Yc B3.out 2).trans rfl)|fail);go_ret;exact⟨rfl,HB.out⟩
 have d1:decide ((100:Int)<(cs.length:Int))=false:=Yt hl;have HLS:=Ya hl;have hax:=inner_le H1.out;obtain⟨⟨LR,le⟩,hle⟩: ∃ p,p=lenRes Zb l cs:=⟨_,rfl⟩;obtain⟨K1,hK1⟩:=lengths_ev Zb Zc l cs (by omega) hax;have hm1:=hK1 K1 (Nat.le_refl _);rw[← hle] at hm1;obtain⟨f,hf⟩: ∃ f_,f_=netErr Zb l:=⟨_,rfl⟩;obtain⟨K2,hK2⟩:=ref_check_ev Zb Zc l;have hm2:=hK2 K2 (Nat.le_refl _);rw[← hf] at hm2;have HM1:=Ya hm1;have HM2:=Ya hm2;have HAX:=Ya hax;clear hK1 hK2 hm1 hm2 hax hl;go_enter Try.func8,Try.ntmps8;by_cases hn:f=0
 ·have e1:(f != 0)=false:=bne_eq_false_iff_eq.mpr hn
  have hres:(LR,le)=if (cs.all fun c=>okA l c.f0)=true then(cs.map fun c:S47=>lenF l 0 c.f0,0) else([],1):=by rw[hle];unfold lenRes;rw[Yu (hf.symm.trans hn)]
  have HRES:=Ya hres;have hnet:=netErr_ok (hf.symm.trans hn);have HNL:Aside0 (l.length≤200):=⟨hnet.len⟩;clear hn hf hle hres hnet;go_upto_region 10 with (first|((with_reducible refine gate_dst (N:=2) rfl ?_);refine Yw ?hg (N:=2) ?hd (cs:= #[.int .i64 Zb, .bool Zc, .slice Zf l.length Ze]) (t:=24) ?hr ?_;(case hd=>rfl);(case hg=>rfl);(case hr=>first|(go_simp;done)|(go_simp;rfl));intro g3 hg3 w5 Zg hb;have B3:=Ya Zg;have HB:=Ya hb;clear hg3 Zg hb;have x0:w5.cell? ⟨g3,0,none⟩=some (.int .i64 Zb):=(Yc B3.out 0).trans rfl;have x1:w5.cell? ⟨g3,1,none⟩=some (.bool Zc):=(Yc B3.out 1).trans rfl;have x2:w5.cell? ⟨g3,2,none⟩=some (.slice Zf l.length Ze):=(Yc B3.out 2).trans rfl)|(go_at_call 18;refine(ebbtidelaw13_awake.calls K3 true _ HM3.out).mono ?_;rintro e_ w6 ⟨rfl,hb⟩;have m0_:=Ya (Yk HB.out hb);have m1_:=Ya (Yn B3.out hb);clear HB B3 hb x0 x1 x2;have HB:=m0_;have B3:=m1_;clear m0_ m1_;have x0:w6.cell? ⟨g3,0,none⟩=some (.int .i64 Zb):=(Yc B3.out 0).trans rfl;have x1:w6.cell? ⟨g3,1,none⟩=some (.bool Zc):=(Yc B3.out 1).trans rfl;have x2:w6.cell? ⟨g3,2,none⟩=some (.slice Zf l.length Ze):=(Yc B3.out 2).trans rfl)|(go_at_call 29;refine(decomp_Lengths.calls K1 Zb Zc Zf Ze l A1 c1 cs LR le _ (Yq H2.out HB.out) HC2.out (Yq H1.out HB.out) HC1.out HM1.out).mono ?_;rintro e_ w7 ⟨v0,rfl,hr0,hb⟩;obtain⟨AL,cL,ev⟩:=Kd.R_slice hr0;subst ev;have HRL:=Ya (Kd.R_reads' hr0).2.2;clear hr0;have m0_:=Ya (Yk HB.out hb);have m1_:=Ya (Yn B3.out hb);clear HB B3 hb x0 x1 x2;have HB:=m0_;have B3:=m1_;clear m0_ m1_;have x0:w7.cell? ⟨g3,0,none⟩=some (.int .i64 Zb):=(Yc B3.out 0).trans rfl;have x1:w7.cell? ⟨g3,1,none⟩=some (.bool Zc):=(Yc B3.out 1).trans rfl;have x2:w7.cell? ⟨g3,2,none⟩=some (.slice Zf l.length Ze):=(Yc B3.out 2).trans rfl)|(go_at_call 30;refine(ebbtideref05_Check.calls K2 Zb Zc Zf Ze l f _ (Yq H2.out HB.out) HC2.out HM2.out).mono ?_;rintro e_ w8 ⟨rfl,hb⟩;have HRL':=Ya (Yq HRL.out hb);clear HRL;have HRL:=HRL';clear HRL';have m0_:=Ya (Yk HB.out hb);have m1_:=Ya (Yn B3.out hb);clear HB B3 hb x0 x1 x2;have HB:=m0_;have B3:=m1_;clear m0_ m1_;have x0:w8.cell? ⟨g3,0,none⟩=some (.int .i64 Zb):=(Yc B3.out 0).trans rfl;have x1:w8.cell? ⟨g3,1,none⟩=some (.bool Zc):=(Yc B3.out 1).trans rfl;have x2:w8.cell? ⟨g3,2,none⟩=some (.slice Zf l.length Ze):=(Yc B3.out 2).trans rfl)|fail)
  go_wp2_with fail;clear x0 x1 x2;go_loopw [9] (fun v9 w'=> ∃ i:Nat,i≤cs.length∧v9= .int .i64 (i:Int)∧Aside0 (∀ j:Nat,j<i→okA l (cs.getD j z47).f0=true∧(cs.getD j z47).f0.length≤100)∧Aside0 (w'.heap[g3]? =some (.cells #[.int .i64 Zb, .bool Zc, .slice Zf l.length Ze] 24 (0,0)))∧Aside0 (Kd.C (Kd.int .i64) w' AL LR.length LR)∧Aside0 (Below w.heap.size w w')) (fun v9 _=>cs.length - (intOf v9).toNat)
  case atStart=>exact⟨0,Nat.zero_le _,rfl,⟨fun j hj=>by omega⟩,B3,HRL,HB⟩
  case round=>
   clear B3 HRL HB;obtain⟨i,hi,rfl,HOK,B3,HRL,HB⟩:=hrel;have y2:wr.cell? ⟨g3,2,none⟩=some (.slice Zf l.length Ze):=(Yc B3.out 2).trans rfl;by_cases hlt:i<cs.length
   ·have c9:decide ((i:Int)<(cs.length:Int))=true:=Ys (by omega)
    obtain⟨ad,A0,c0,eA,z0,z1,hc0,hC0⟩:=at_T47 H1.out (i:Int) (by omega) (by omega);subst eA;simp only[Int.toNat_natCast] at z0 z1;have hrd:rd_T47 cs (i:Int)=cs.getD i z47:=by unfold rd_T47;rw[Int.toNat_natCast]
    rw[hrd] at z0 hc0 hC0;clear z1 hrd;obtain⟨ax,hax⟩: ∃ ax,ax=(cs.getD i z47).f0:=⟨_,rfl⟩;rw[← hax] at z0 hc0 hC0;have HZ0:=Ya z0;have z0:=pw_cell_below HB.out z0;have HAX0:=Ya hax;have HCA:=Ya hc0;have HCX:=Ya hC0;have HLT:=Ya hlt;have p1:((0:Int)≤(i:Int))=True:=eq_true (by omega);have p2:((i:Int)<(cs.length:Int))=True:=eq_true (by omega);clear hax hc0 hC0 hlt;by_cases h100:(100:Int)<(ax.length:Int)
    ·have d2:decide ((100:Int)<(ax.length:Int))=true:=Ys h100
     clear h100;go_wp2_with fail;go_ret;exact⟨rfl,HB.out⟩
    have d2:decide ((100:Int)<(ax.length:Int))=false:=Yt h100;have HAL:Aside0 (ax.length≤100):=⟨by omega⟩;clear h100;go_wp2_with fail;clear z0 y2;go_loopw [10] (fun v10 w'=> ∃ j:Nat,j≤ax.length∧v10= .int .i64 (j:Int)∧Aside0 (∀ k:Nat,k<j→0≤ax.getD k 0∧ax.getD k 0<(l.length:Int))∧Aside0 (w'.heap[g3]? =some (.cells #[.int .i64 Zb, .bool Zc, .slice Zf l.length Ze] 24 (0,0)))∧Aside0 (Kd.C (Kd.int .i64) w' AL LR.length LR)∧Aside0 (Below w.heap.size w w')) (fun v10 _=>ax.length - (intOf v10).toNat)
    case atStart=>exact⟨0,Nat.zero_le _,rfl,⟨fun j hj=>by omega⟩,B3,HRL,HB⟩
    case round=>
     clear B3 HRL HB;obtain⟨j,hj,rfl,HOJ,B3,HRL,HB⟩:=hrel;have z0:=pw_cell_below HB.out HZ0.out;have y2:wr.cell? ⟨g3,2,none⟩=some (.slice Zf l.length Ze):=(Yc B3.out 2).trans rfl;by_cases hjl:j<ax.length
     ·have c10:decide ((j:Int)<(ax.length:Int))=true:=Ys (by omega)
      obtain⟨ad0,e0,yk⟩:=Kd.at_int HCX.out (j:Int) (by omega) (by omega);subst e0;rw[rd_nat] at yk;simp only[Int.toNat_natCast] at yk;obtain⟨x,hx⟩: ∃ x_,x_=ax.getD j 0:=⟨_,rfl⟩;rw[← hx] at yk;have yk:=pw_cell_below HB.out yk;have HX:=Ya hx;clear hx;have p3:((0:Int)≤(j:Int))=True:=eq_true (by omega);have p4:((j:Int)<(ax.length:Int))=True:=eq_true (by omega);have q0: ∀ p:BelowW wr,p.at_.cell? (ad.add (i * 2))=some (.slice (some ad0) ax.length c0):=fun p=>p.cell z0
      have q2: ∀ p:BelowW wr,p.at_.cell? ⟨g3,2,none⟩=some (.slice Zf l.length Ze):=fun p=>p.cell y2
      have q3: ∀ p:BelowW wr,p.at_.cell? (ad0.add j)=some (.int .i64 x):=fun p=>p.cell yk
      by_cases hx0:x<0
      ·have n1_:decide (x<0)=true:=Ys hx0
       have hres:le=1∧LR=[]:=by
        have h1:=HRES.out;rw[not_ok HLT.out (show j<(cs.getD i z47).f0.length by rw[← HAX0.out];exact hjl) (by rw[← HAX0.out, ← HX.out];omega),Yv (by simp)] at h1;injection h1 with h1 h2
        exact⟨h2,h1⟩
       have e2:(le == 1)=true:=beq_iff_eq.mpr hres.1;have e3:((LR.length:Int) == 0)=true:=by rw[hres.2];rfl
       clear hres;go_upto_region 18 with fail
       refine wp_region_quiet_below (by kernel_rfl) (by kernel_rfl) ?_;(repeat(quiet_step (fail)));refine wpQuiet_nil ?_;intro wq hw';obtain⟨⟨wz,hbq⟩,hwq⟩:=hw';subst hwq;go_wp2_with fail;go_ret;exact⟨rfl,Yk HB.out hbq⟩
      have n1_:decide (x<0)=false:=Yt hx0;by_cases hx1:(l.length:Int)≤x
      ·have n2_:decide ((l.length:Int)≤x)=true:=Ys hx1
       have hres:le=1∧LR=[]:=by
        have h1:=HRES.out;rw[not_ok HLT.out (show j<(cs.getD i z47).f0.length by rw[← HAX0.out];exact hjl) (by rw[← HAX0.out, ← HX.out];omega),Yv (by simp)] at h1;injection h1 with h1 h2
        exact⟨h2,h1⟩
       have e2:(le == 1)=true:=beq_iff_eq.mpr hres.1;have e3:((LR.length:Int) == 0)=true:=by rw[hres.2];rfl
       clear hres;go_upto_region 18 with fail
       refine wp_region_quiet_below (by kernel_rfl) (by kernel_rfl) ?_;(repeat(quiet_step (fail)));refine wpQuiet_nil ?_;intro wq hw';obtain⟨⟨wz,hbq⟩,hwq⟩:=hw';subst hwq;go_wp2_with fail;go_ret;exact⟨rfl,Yk HB.out hbq⟩
      have n2_:decide ((l.length:Int)≤x)=false:=Yt hx1;have HOJ':Aside0 (∀ k:Nat,k<j+1→0≤ax.getD k 0∧ax.getD k 0<(l.length:Int)):=⟨fun k hk=>by
       by_cases e:k=j
       ·subst e;rw[← HX.out];omega
       ·exact HOJ.out k (by omega)⟩
      have HJL:=Ya hjl;clear hx0 hx1 hjl;go_upto_region 18 with fail
      refine wp_region_quiet_below (by kernel_rfl) (by kernel_rfl) ?_;(repeat(quiet_step (fail)));refine wpQuiet_nil ?_;intro wq hw';obtain⟨⟨wz,hbq⟩,hwq⟩:=hw';subst hwq;have m0_:=Ya (Yn B3.out hbq);have m1_:=Ya (Yq HRL.out hbq);have m2_:=Ya (Yk HB.out hbq);clear B3 HRL HB z0 y2 yk q0 q2 q3 hbq;go_wp2_with fail;have hwj:wrap64 ((j:Int)+1)=((j+1:Nat):Int):=wrap_succ (n:=ax.length) HJL.out (by have:=HAL.out;omega);go_roundw
      case rel=>exact⟨j+1,by have:=HJL.out;omega,by rw[hwj],HOJ',m0_,m1_,m2_⟩
      case measure=>have:=HJL.out;rw[hwj];simp[intOf];omega
     ·have c10:decide (j<ax.length)=false:=Yt hjl
      have HOK':Aside0 (∀ j:Nat,j<i+1→okA l (cs.getD j z47).f0=true∧(cs.getD j z47).f0.length≤100):=⟨fun k hk=>by
       by_cases e:k=i
       ·subst e;rw[← HAX0.out];exact⟨ok_of fun m hm=>HOJ.out m (by omega),HAL.out⟩
       ·exact HOK.out k (by omega)⟩
      clear hjl;go_wp2_with fail;have hwi:wrap64 ((i:Int)+1)=((i+1:Nat):Int):=wrap_succ (n:=cs.length) HLT.out (by have:=HLS.out;omega);refine⟨⟨i+1,by have:=HLT.out;omega,by rw[hwi],HOK',B3,HRL,HB⟩,?_⟩;have:=HLT.out;rw[hwi];simp[intOf];omega
   ·have c9:decide (i<cs.length)=false:=Yt hlt
    have ei:i=cs.length:=by omega
    have hall:=all_ok (l:=l) (cs:=cs) (fun j hj=>(HOK.out j (by omega)).1);have hres:=HRES.out;rw[Yu hall] at hres;injection hres with h1 h2
    have hll:LR.length=cs.length:=by rw[h1,List.length_map]
    have e2:(le != 0)=false:=bne_eq_false_iff_eq.mpr h2;have e3:((LR.length:Int) != (cs.length:Int))=false:=bne_eq_false_iff_eq.mpr (by omega);have HLL:=Ya hll;have HLV:=Ya h1;have HOK':Aside0 (∀ j:Nat,j<cs.length→okA l (cs.getD j z47).f0=true∧(cs.getD j z47).f0.length≤100):=⟨fun j hj=>HOK.out j (by omega)⟩;clear hlt ei hall h1 h2 hll HOK y2;go_wp2_with fail;go_loopw [11] (fun v11 w'=> ∃ m:Nat,m≤cs.length∧v11= .int .i64 (m:Int)∧Aside0 (w'.heap[g3]? =some (.cells #[.int .i64 Zb, .bool Zc, .slice Zf l.length Ze] 24 (0,0)))∧Aside0 (Kd.C (Kd.int .i64) w' AL LR.length LR)∧Aside0 (Below w.heap.size w w')) (fun v11 _=>cs.length - (intOf v11).toNat)
    case atStart=>exact⟨0,Nat.zero_le _,rfl,B3,HRL,HB⟩
    case round=>
     clear B3 HRL HB;obtain⟨m,hm,rfl,B3,HRL,HB⟩:=hrel;have y0:wr.cell? ⟨g3,0,none⟩=some (.int .i64 Zb):=(Yc B3.out 0).trans rfl;have y1:wr.cell? ⟨g3,1,none⟩=some (.bool Zc):=(Yc B3.out 1).trans rfl;have y2:wr.cell? ⟨g3,2,none⟩=some (.slice Zf l.length Ze):=(Yc B3.out 2).trans rfl;by_cases hlt:m<cs.length
     ·have c11:decide ((m:Int)<(cs.length:Int))=true:=Ys (by omega)
      obtain⟨ad,A0,c0,eA,z0,z1,hc0,hC0⟩:=at_T47 H1.out (m:Int) (by omega) (by omega);subst eA;simp only[Int.toNat_natCast] at z0 z1;have hrd:rd_T47 cs (m:Int)=cs.getD m z47:=by unfold rd_T47;rw[Int.toNat_natCast]
      rw[hrd] at z0 hc0 hC0;clear z1 hrd;obtain⟨ax,hax⟩: ∃ ax,ax=(cs.getD m z47).f0:=⟨_,rfl⟩;rw[← hax] at z0 hc0 hC0;obtain⟨hok,hle1⟩:=HOK'.out m hlt;rw[← hax] at hok hle1;have z0:=pw_cell_below HB.out z0;obtain⟨adL,eL,yk⟩:=Kd.at_int HRL.out (m:Int) (by omega) (by have:=HLL.out;omega);subst eL;have hv:rd LR (m:Int)=lenF l 0 ax:=by
       rw[rd_nat,HLV.out,hax,List.getD_eq_getElem?_getD,List.getElem?_map,List.getElem?_eq_getElem hlt,List.getD_eq_getElem?_getD,List.getElem?_eq_getElem hlt];rfl
      rw[hv] at yk;simp only[Int.toNat_natCast] at yk;obtain⟨K4,hK4⟩:=ref_len_ev Zb Zc l ax (by omega) hok;have hm4:=hK4 K4 (Nat.le_refl _);obtain⟨v,hvv⟩: ∃ v_,v_=lenF l 0 ax:=⟨_,rfl⟩;rw[← hvv] at hm4 yk;have HM4:=Ya hm4;have HC0:=Ya hc0;have HCX:=Ya (Yq hC0 HB.out);have HC2r:=Ya (Yq H2.out HB.out);have HLT:=Ya hlt;have n1_:(v != v)=false:=by simp
      have p1:((0:Int)≤(m:Int))=True:=eq_true (by omega);have p2:((m:Int)<(cs.length:Int))=True:=eq_true (by omega);have p3:((m:Int)<(LR.length:Int))=True:=eq_true (by have:=HLL.out;omega);have q0: ∀ p:BelowW wr,p.at_.cell? (ad.add (m * 2))=some (.slice A0 ax.length c0):=fun p=>p.cell z0
      have q1: ∀ p:BelowW wr,p.at_.cell? ⟨g3,0,none⟩=some (.int .i64 Zb):=fun p=>p.cell y0
      have q2: ∀ p:BelowW wr,p.at_.cell? ⟨g3,1,none⟩=some (.bool Zc):=fun p=>p.cell y1
      have q3: ∀ p:BelowW wr,p.at_.cell? ⟨g3,2,none⟩=some (.slice Zf l.length Ze):=fun p=>p.cell y2
      have q4: ∀ p:BelowW wr,p.at_.cell? (adL.add m)=some (.int .i64 v):=fun p=>p.cell yk
      have hwm:wrap64 ((m:Int)+1)=((m+1:Nat):Int):=wrap_succ (n:=cs.length) hlt (by have:=HLS.out;omega);clear hax hok hle1 hv hK4 hm4 hvv hc0 hC0;go_upto_region 31 with fail
      refine wp_region_quiet_below (by kernel_rfl) (by kernel_rfl) ?_;(repeat(quiet_step ((first|(go_at_call 31;exact calls_below_of (ebbtideref13_Length.calls K4 Zb Zc Zf Ze l A0 c0 ax v _ (Yq HC2r.out (BelowW.below _)) HC2.out (Yq HCX.out (BelowW.below _)) HC0.out HM4.out))))));refine wpQuiet_nil ?_;intro wq hw';obtain⟨⟨wz,hbq⟩,hwq⟩:=hw';subst hwq;have m0_:=Ya (Yn B3.out hbq);have m1_:=Ya (Yq HRL.out hbq);have m2_:=Ya (Yk HB.out hbq);clear B3 HRL HB z0 y0 y1 y2 yk q0 q1 q2 q3 q4 hbq;go_wp2_with fail;go_roundw
      case rel=>exact⟨m+1,by have:=HLT.out;omega,by rw[hwm],m0_,m1_,m2_⟩
      case measure=>have:=HLT.out;rw[hwm];simp[intOf];omega
     ·have c11:decide (m<cs.length)=false:=Yt hlt
      go_wp2_with fail;go_ret;exact⟨rfl,HB.out⟩
 ·have e1:(f != 0)=true:=bne_iff_ne.mpr hn
  have hres:(LR,le)=([],f):=by rw[hle];unfold lenRes;rw[Yv (by rw[← hf];exact hn),hf]
  injection hres with h1 h2
  have e2:(le == f)=true:=beq_iff_eq.mpr h2;have e3:((LR.length:Int) == 0)=true:=by rw[h1];rfl
  clear hn hf hle h1 h2;go_wp2_with (first|((with_reducible refine gate_dst (N:=2) rfl ?_);refine Yw ?hg (N:=2) ?hd (cs:= #[.int .i64 Zb, .bool Zc, .slice Zf l.length Ze]) (t:=24) ?hr ?_;(case hd=>rfl);(case hg=>rfl);(case hr=>first|(go_simp;done)|(go_simp;rfl));intro g3 hg3 w5 Zg hb;have B3:=Ya Zg;have HB:=Ya hb;clear hg3 Zg hb;have x0:w5.cell? ⟨g3,0,none⟩=some (.int .i64 Zb):=(Yc B3.out 0).trans rfl;have x1:w5.cell? ⟨g3,1,none⟩=some (.bool Zc):=(Yc B3.out 1).trans rfl;have x2:w5.cell? ⟨g3,2,none⟩=some (.slice Zf l.length Ze):=(Yc B3.out 2).trans rfl)|(go_at_call 18;refine(ebbtidelaw13_awake.calls K3 true _ HM3.out).mono ?_;rintro e_ w6 ⟨rfl,hb⟩;have m0_:=Ya (Yk HB.out hb);have m1_:=Ya (Yn B3.out hb);clear HB B3 hb x0 x1 x2;have HB:=m0_;have B3:=m1_;clear m0_ m1_;have x0:w6.cell? ⟨g3,0,none⟩=some (.int .i64 Zb):=(Yc B3.out 0).trans rfl;have x1:w6.cell? ⟨g3,1,none⟩=some (.bool Zc):=(Yc B3.out 1).trans rfl;have x2:w6.cell? ⟨g3,2,none⟩=some (.slice Zf l.length Ze):=(Yc B3.out 2).trans rfl)|(go_at_call 29;refine(decomp_Lengths.calls K1 Zb Zc Zf Ze l A1 c1 cs LR le _ (Yq H2.out HB.out) HC2.out (Yq H1.out HB.out) HC1.out HM1.out).mono ?_;rintro e_ w7 ⟨v0,rfl,hr0,hb⟩;obtain⟨AL,cL,ev⟩:=Kd.R_slice hr0;subst ev;have HRL:=Ya (Kd.R_reads' hr0).2.2;clear hr0;have m0_:=Ya (Yk HB.out hb);have m1_:=Ya (Yn B3.out hb);clear HB B3 hb x0 x1 x2;have HB:=m0_;have B3:=m1_;clear m0_ m1_;have x0:w7.cell? ⟨g3,0,none⟩=some (.int .i64 Zb):=(Yc B3.out 0).trans rfl;have x1:w7.cell? ⟨g3,1,none⟩=some (.bool Zc):=(Yc B3.out 1).trans rfl;have x2:w7.cell? ⟨g3,2,none⟩=some (.slice Zf l.length Ze):=(Yc B3.out 2).trans rfl)|(go_at_call 30;refine(ebbtideref05_Check.calls K2 Zb Zc Zf Ze l f _ (Yq H2.out HB.out) HC2.out HM2.out).mono ?_;rintro e_ w8 ⟨rfl,hb⟩;have HRL':=Ya (Yq HRL.out hb);clear HRL;have HRL:=HRL';clear HRL';have m0_:=Ya (Yk HB.out hb);have m1_:=Ya (Yn B3.out hb);clear HB B3 hb x0 x1 x2;have HB:=m0_;have B3:=m1_;clear m0_ m1_;have x0:w8.cell? ⟨g3,0,none⟩=some (.int .i64 Zb):=(Yc B3.out 0).trans rfl;have x1:w8.cell? ⟨g3,1,none⟩=some (.bool Zc):=(Yc B3.out 1).trans rfl;have x2:w8.cell? ⟨g3,2,none⟩=some (.slice Zf l.length Ze):=(Yc B3.out 2).trans rfl)|fail);go_ret;exact⟨rfl,HB.out⟩
end H
namespace P
def ebbtidelaw13_DecompLengths.f (Zb:Int) (Zc:Bool) (l:List S50) (cs:List S47):Option (Bool):=some true
theorem ebbtidelaw13_DecompLengths.calls (Zb:Int) (Zc:Bool) (Zf:Option Addr) (Ze:Nat) (l:List S50) (A1:Option Addr) (c1:Nat) (cs:List S47) (r:Bool) (w:World) (Zq:Kd.C k50 w Zf l.length l) (Zr:l.length≤Ze) (hr1:Kd.C k47 w A1 cs.length cs) (hc1:cs.length≤c1) (h:ebbtidelaw13_DecompLengths.f Zb Zc l cs=some r):
  Calls Try.prog 8 #[.agg #[.int .i64 Zb, .bool Zc, .slice Zf l.length Ze], .slice A1 cs.length c1] w fun e w'=>e= .returned (.bool r)∧Below w.heap.size w w':=H.ebbtidelaw13_DecompLengths_calls Zb Zc Zf Ze l A1 c1 cs r w Zq Zr hr1 hc1 h
end P
namespace Opn
open Go.ChangeShapes Go.WideShapes Go.Deep 
def Opens (P:Program) (t:TypeId) {α:Type} (d:Kd α) (ok:α→Prop):Prop:=
 ∀ (H:Type) (enc:TypeId × Value→H) (w:World) (base:Nat) (spare:Nat→Bool) (held:Bool) (fuel:Nat) (cs:List Value) (x:DataW H × List MemPlace),
  DataW.trod enc P w base spare held fuel t cs=some x→ ∃ a:α,d.K w a cs∧ok a
theorem opens_int {P:Program} {t:TypeId} {k:IntKind} (ht:P.underlying t=some (.int k)):Opens P t (Kd.int k) (fun n=>(Lit.int k n).wf=true):=by
 intro H enc w base spare held fuel cs x h;obtain⟨n,rfl,_,hw⟩:=DataW.trod_int ht h;exact⟨n,rfl,hw⟩
theorem opens_bool {P:Program} {t:TypeId} (ht:P.underlying t=some .bool):Opens P t Kd.bool (fun _=>True):=by
 intro H enc w base spare held fuel cs x h;obtain⟨b,rfl,_⟩:=DataW.trod_bool ht h;exact⟨b,rfl,trivial⟩
theorem opens_slice {P:Program} {t e:TypeId} {α:Type} {d:Kd α} {ok:α→Prop} (ht:P.underlying t=some (.slice e)) (hc:P.cellsOf e=d.sz) (h:Opens P e d ok):
  Opens P t (Kd.slice e d) (fun l=>l.length≤9223372036854775807∧ ∀ x∈l,ok x):=by
 intro H enc w base spare held fuel cs x hx;rcases open_slice ht hx with ⟨rfl,_⟩|⟨a,len,cap,m,n,D,Pl,rfl,hb,hl,hm,hmm,_,hi⟩
 ·exact⟨[],⟨none,0,rfl,Nat.le_refl _,rfl,by simp,fun h=>absurd h (by simp)⟩,by simp,by simp⟩
 ·have hlm:len≤m:=by rw[hmm];split<;>omega
  have hel: ∀ i:Nat,i<len→ ∃ a':α,ok a'∧ ∃ c,c.length=d.sz∧d.K w a' c∧ ∀ j u,c[j]? =some u→w.cell? (a.add (i * d.sz+j))=some u:=by
   intro i hil;obtain⟨cs',hcs,htr⟩:=hi i (by omega);obtain⟨a',hK,hok⟩:=h H enc w base spare held n cs' _ htr;rw[hc] at hcs;obtain⟨_,hcl,hat⟩:=World.cells?_some hcs;refine⟨a',hok,cs',hcl,hK,fun j u hu=> ?_⟩;have hj:j<d.sz:=by have:=(List.getElem?_eq_some_iff.1 hu).1;omega
   have:=hat j hj;rw[← Go.Deep.add_add,this,hu]
  have hrow: ∀ k:Nat,k≤len→ ∃ xs:List α,xs.length=k∧(∀ x∈xs,ok x)∧ ∀ j p,xs[j]? =some p→ ∃ c,c.length=d.sz∧d.K w p c∧ ∀ i u,c[i]? =some u→w.cell? (a.add (j * d.sz+i))=some u:=by
   intro k
   induction k with
   |zero=>exact fun _=>⟨[],rfl,by simp,by simp⟩
   |succ k ih=>
    intro hk;obtain⟨xs,h1,h2,h3⟩:=ih (by omega);obtain⟨a',ho,c,hcl,hK,hcell⟩:=hel k (by omega);refine⟨xs ++ [a'],by simp[h1],fun x hx=> ?_,fun j p hj=> ?_⟩
    ·rcases List.mem_append.1 hx with h|h
     ·exact h2 x h
     ·rw[List.mem_singleton.1 h];exact ho
    ·by_cases hjk:j<xs.length
     ·rw[List.getElem?_append_left hjk] at hj
      exact h3 j p hj
     ·have hjl:=(List.getElem?_eq_some_iff.1 hj).1
      simp at hjl;have hje:j=k:=by omega
      subst hje;rw[← h1,List.getElem?_concat_length] at hj;obtain rfl:=Option.some.inj hj;exact⟨c,hcl,hK,hcell⟩
  obtain⟨xs,h1,h2,h3⟩:=hrow len (Nat.le_refl _);have hmx:len≤9223372036854775807:=by unfold maxLen at hm;omega
  subst h1;exact⟨xs,⟨some a,cap,rfl,hl,rfl,hmx,fun _=>⟨a,rfl,h3⟩⟩,hmx,h2⟩
theorem opens_iso {P:Program} {t:TypeId} {α β:Type} {d:Kd α} {ok:α→Prop} (h:Opens P t d ok) (f:β→α) (g:α→β) (hfg: ∀ x,f (g x)=x):Opens P t (Kd.iso d f) (fun y=>ok (f y)):=by
 intro H enc w base spare held fuel cs x hx;obtain⟨a,hK,hok⟩:=h H enc w base spare held fuel cs x hx;exact⟨g a,by show d.K w (f (g a)) cs;rw[hfg];exact hK,by show ok (f (g a));rw[hfg];exact hok⟩
def OpensFs (P:Program) (fs:List Field) (off:Nat) {α:Type} (d:Kd α) (ok:α→Prop):Prop:=
 ∀ (H:Type) (enc:TypeId × Value→H) (w:World) (base:Nat) (spare:Nat→Bool) (held:Bool) (n:Nat) (cs:List Value),cs.length=off+d.sz→
  (∀ f∈fs, ∃ y,DataW.trod enc P w base spare held n f.type ((cs.drop f.offset).take (P.cellsOf f.type))=some y)→ ∃ a:α,d.K w a (cs.drop off)∧ok a
theorem fs_one {P:Program} {f:Field} {off:Nat} {α:Type} {d:Kd α} {ok:α→Prop} (ho:f.offset=off) (hc:P.cellsOf f.type=d.sz) (h:Opens P f.type d ok):OpensFs P [f] off d ok:=by
 intro H enc w base spare held n cs hl hf;obtain⟨y,hy⟩:=hf f (by simp);rw[ho,hc,List.take_of_length_le (by simp;omega)] at hy;exact h H enc w base spare held n _ y hy
theorem fs_cons {P:Program} {f:Field} {fs:List Field} {off:Nat} {α β:Type} {d:Kd α} {d':Kd β} {ok:α→Prop} {ok':β→Prop} (ho:f.offset=off) (hc:P.cellsOf f.type=d.sz) (h:Opens P f.type d ok)
  (hr:OpensFs P fs (off+d.sz) d' ok'):OpensFs P (f::fs) off (Kd.pair d d') (fun x=>ok x.1∧ok' x.2):=by
 intro H enc w base spare held n cs hl hf;have hsz:(Kd.pair d d').sz=d.sz+d'.sz:=rfl;rw[hsz] at hl;obtain⟨y,hy⟩:=hf f (by simp);rw[ho,hc] at hy;obtain⟨a,hK,hok⟩:=h H enc w base spare held n _ y hy;obtain⟨b,hKb,hokb⟩:=hr H enc w base spare held n cs (by omega) (fun f' hf'=>hf f' (List.mem_cons_of_mem _ hf'));refine⟨(a,b),⟨_,_,?_,hK,hKb⟩,hok,hokb⟩;rw[← List.drop_drop];exact(List.take_append_drop _ _).symm
theorem opens_struct {P:Program} {t:TypeId} {fs:Array Field} {α:Type} {d:Kd α} {ok:α→Prop} (hs:P.underlying t=some (.struct fs)) (hC:P.cellsOf t=d.sz) (h:OpensFs P fs.toList 0 d ok):Opens P t d ok:=by
 intro H enc w base spare held fuel cs x hx;obtain⟨xs,n,_,_,hl,hlen,hf⟩:=DataW.trod_struct hs hx;obtain⟨a,hK,hok⟩:=h H enc w base spare held n cs (by rw[hl,hC,Nat.zero_add]) (fun f hfm=>by
  obtain⟨j,hj⟩:=List.getElem?_of_mem hfm;have hj':fs[j]? =some f:=by rw[← hj];simp
  have hjl:j<xs.length:=by rw[hlen];exact(Array.getElem?_eq_some_iff.1 hj').1
  have h1:=hf j f hj';rw[List.getElem?_eq_getElem hjl] at h1;exact⟨_,h1⟩)
 exact⟨a,hK,hok⟩
theorem arg_struct {H:Type} {enc:TypeId × Value→H} {P:Program} {w:World} {base b0:Nat} {spare:Nat→Bool} {held:Bool} {r:Reach} {t:TypeId} {fs:Array Field} {v:Value} {dd:DataW H} {p:List MemPlace} {α:Type} {d:Kd α} {ok:α→Prop}
  (hs:P.underlying t=some (.struct fs)) (ho:Opens P t d ok) (hv:Value.okWide P w r b0 t v) (h:DataW.Trod enc P w base spare held t v dd p): ∃ a cs,v= .agg cs∧d.K w a cs.toList∧ok a:=by
 obtain⟨cs,rfl,hsz⟩:=okWide_struct hs hv;obtain⟨fuel,hf⟩:=h;obtain⟨a,hK,hok⟩:=ho H enc w base spare held fuel _ _ hf;exact⟨a,cs,rfl,by simpa [Value.cells] using hK,hok⟩
theorem arg_slice {H:Type} {enc:TypeId × Value→H} {P:Program} {w:World} {base b0:Nat} {spare:Nat→Bool} {held:Bool} {r:Reach} {t e:TypeId} {v:Value} {dd:DataW H} {p:List MemPlace} {α:Type} {d:Kd α} {ok:List α→Prop}
  (hs:P.underlying t=some (.slice e)) (ho:Opens P t (Kd.slice e d) ok) (hv:Value.okWide P w r b0 t v) (h:DataW.Trod enc P w base spare held t v dd p): ∃ A c l,v= .slice A l.length c∧l.length≤c∧d.C w A l.length l∧ok l:=by
 obtain⟨A,len,cap,rfl⟩:=okWide_slice hs hv;obtain⟨fuel,hf⟩:=h;obtain⟨l,⟨A',c,he,hlc,hC⟩,hok⟩:=ho H enc w base spare held fuel _ _ hf;simp[Value.cells] at he;obtain⟨rfl,rfl,rfl⟩:=he;exact⟨A,cap,l,rfl,hlc,hC,hok⟩
end Opn
namespace Q
open P
theorem decompLengths_ev (n:Int) (b:Bool) (l:List S50) (cs:List S47):Ev (fun _=>ebbtidelaw13_DecompLengths.f n b l cs) true:=Ev.now _
end Q
end Go.Proofs.Ytoedkglggapggaa
