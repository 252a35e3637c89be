/- What the law's row needs of these texts, taken out of them by wip/tool/mini.py: P16 QPress P26 P27. -/
import Derived.Test.YtjaoknhhoicigaaMihklgc
import Derived.Test.YtjaoknhhoicigaaVgpkfop
import Derived.Deep.MidRow
set_option linter.unusedVariables false
set_option linter.unusedSimpArgs false
open Go.RowKit Go.Proofs.YtjaoknhhoicigaaW.PrintWords Go.Proofs.YtjaoknhhoicigaaW.PrintLast Go.Proofs.YtjaoknhhoicigaaW.PrintMore
namespace Go.Proofs.Ytjaoknhhoicigaa
namespace P
attribute [local go_sem] max2_int min2_int max_two min_two max_three min_three max_four min_four
def ebbtidelaw18_awake.f (k:Nat)  :Option (Bool):=(some (([(⟨0,0⟩:S53),(⟨0,1⟩:S53),(⟨0,2⟩:S53)]:List (S53)):List (S53))).bind fun y129=>((ebbtidelaw14_Line.f true).bind fun bt132=>((timecut_Check.f bt132.1 bt132.2.1 bt132.2.2 0 2 2 y129).bind fun bt137=>((ebbtidelaw14_Line.f true).bind fun bt139=>((timecut_Check.f bt139.1 bt139.2.1 bt139.2.2 0 2 2 (([(⟨0,0⟩:S53),(⟨0,1⟩:S53),(⟨0,2⟩:S53),(⟨1,1⟩:S53),(⟨1,2⟩:S53)]:List (S53)))).bind fun bt147=>((ebbtidelaw14_Line.f true).bind fun bt149=>(if 2≤(y129.length:Int) then((timecut_Check.f bt149.1 bt149.2.1 bt149.2.2 0 2 2 (y129.take 2)).bind fun bt158=>((ebbtidelaw14_Line.f true).bind fun bt160=>((timecut_From.f k bt160.1 bt160.2.1 bt160.2.2 2 (([0,3,9]:List Int))).bind fun bt168=>(if bt137.2=0 then(if bt137.1=4 then(if bt147.2=0 then(if bt147.1=2 then(if bt158.2=181 then(if bt168.2=0 then((ebbtideref03_SameSlots.f k bt168.1 y129).bind fun t172=>(some t172)) else(some false)) else(some false)) else(some false)) else(some false)) else(some false)) else(some false))))) else(none)))))))
theorem ebbtidelaw18_awake.mono: ∀ k,LeO (ebbtidelaw18_awake.f k ) (ebbtidelaw18_awake.f (k+1) ):=by
 intro  k;unfold ebbtidelaw18_awake.f;repeat' first
   |(with_reducible exact ebbtideref03_SameSlots.mono _ _ _)
   |(with_reducible exact timecut_From.mono _ _ _ _ _ _)
   |(with_reducible exact LeO.refl _)
   |(with_reducible exact LeO.none _)
   |(with_reducible refine LeO.ite ?_ ?_)
   |(with_reducible refine LeO.bind ?_ (fun _=> ?_))
   |exact ebbtideref03_SameSlots.mono _ _ _
   |exact timecut_From.mono _ _ _ _ _ _
   |exact LeO.none _
   |refine LeO.ite ?_ ?_
   |refine LeO.bind ?_ (fun _=> ?_)
def ebbtidelaw18_awake.T4:Bool × List (List Nat × List Nat):=(true,[([],[]),([],[]),([1],[1]),([0,2,0],[0,2]),([3],[3]),([4],[4]),([4],[4]),([5,3,0,1,2,3,4,5],[5]),([6,7,0,1,2,3,4,5,6,7],[6])])
def ebbtidelaw18_awake.B4:List Nat:=[0,0,2,7,15,31,31,63,255]
theorem ebbtidelaw18_awake.tab4:rtab .any (opsOf Try.f7 4)=ebbtidelaw18_awake.T4:=by kernel_rfl
theorem ebbtidelaw18_awake.bits4:waitsOk ebbtidelaw18_awake.T4.2 ebbtidelaw18_awake.B4=true:=by kernel_rfl
set_option maxHeartbeats 8000000 in
set_option maxRecDepth 100000 in
theorem ebbtidelaw18_awake.calls (k:Nat)  (r:Bool) (w:World) (h:ebbtidelaw18_awake.f k  =some r) (hrT_:r=true:=by first|rfl|exact Aside0.out (by assumption)):
  Calls Try.prog 7 #[] w fun e w'=>e= .returned (.bool r)∧Below w.heap.size w w':=by
 have HRT:=Ya hrT_;clear hrT_;have hu53:=Try.underlying53;have HB:=Ya (Yo w.heap.size w);have H:((some (([(⟨0,0⟩:S53),(⟨0,1⟩:S53),(⟨0,2⟩:S53)]:List (S53)):List (S53))).bind fun y129=>((ebbtidelaw14_Line.f true).bind fun bt132=>((timecut_Check.f bt132.1 bt132.2.1 bt132.2.2 0 2 2 y129).bind fun bt137=>((ebbtidelaw14_Line.f true).bind fun bt139=>((timecut_Check.f bt139.1 bt139.2.1 bt139.2.2 0 2 2 (([(⟨0,0⟩:S53),(⟨0,1⟩:S53),(⟨0,2⟩:S53),(⟨1,1⟩:S53),(⟨1,2⟩:S53)]:List (S53)))).bind fun bt147=>((ebbtidelaw14_Line.f true).bind fun bt149=>(if 2≤(y129.length:Int) then((timecut_Check.f bt149.1 bt149.2.1 bt149.2.2 0 2 2 (y129.take 2)).bind fun bt158=>((ebbtidelaw14_Line.f true).bind fun bt160=>((timecut_From.f k bt160.1 bt160.2.1 bt160.2.2 2 (([0,3,9]:List Int))).bind fun bt168=>(if bt137.2=0 then(if bt137.1=4 then(if bt147.2=0 then(if bt147.1=2 then(if bt158.2=181 then(if bt168.2=0 then((ebbtideref03_SameSlots.f k bt168.1 y129).bind fun t172=>(some t172)) else(some false)) else(some false)) else(some false)) else(some false)) else(some false)) else(some false))))) else(none))))))))=some r:=h;clear h;obtain⟨y129,hy129⟩: ∃ y_:List (S53),y_=(([(⟨0,0⟩:S53),(⟨0,1⟩:S53),(⟨0,2⟩:S53)]:List (S53))):=⟨_,rfl⟩;replace H:((ebbtidelaw14_Line.f true).bind fun bt132=>((timecut_Check.f bt132.1 bt132.2.1 bt132.2.2 0 2 2 y129).bind fun bt137=>((ebbtidelaw14_Line.f true).bind fun bt139=>((timecut_Check.f bt139.1 bt139.2.1 bt139.2.2 0 2 2 (([(⟨0,0⟩:S53),(⟨0,1⟩:S53),(⟨0,2⟩:S53),(⟨1,1⟩:S53),(⟨1,2⟩:S53)]:List (S53)))).bind fun bt147=>((ebbtidelaw14_Line.f true).bind fun bt149=>(if 2≤(y129.length:Int) then((timecut_Check.f bt149.1 bt149.2.1 bt149.2.2 0 2 2 (y129.take 2)).bind fun bt158=>((ebbtidelaw14_Line.f true).bind fun bt160=>((timecut_From.f k bt160.1 bt160.2.1 bt160.2.2 2 (([0,3,9]:List Int))).bind fun bt168=>(if bt137.2=0 then(if bt137.1=4 then(if bt147.2=0 then(if bt147.1=2 then(if bt158.2=181 then(if bt168.2=0 then((ebbtideref03_SameSlots.f k bt168.1 y129).bind fun t172=>(some t172)) else(some false)) else(some false)) else(some false)) else(some false)) else(some false)) else(some false))))) else(none)))))))=some r:=by first|(rw[hy129];with_reducible exact H)|(have H2_:=(Option.bind_some _ _).symm.trans H;rw[hy129];with_reducible exact H2_)|(have H2_:=(Option.bind_some _ _).symm.trans H;with_reducible exact H2_)|with_reducible exact H|(rw[hy129];exact H)|exact H
 have Ny129:=Ya hy129;clear hy129;replace H:=Option.bind_eq_some_iff.mp H;obtain⟨⟨t132,t133,t134⟩,A10,H⟩:=H;replace H:((timecut_Check.f t132 t133 t134 0 2 2 y129).bind fun bt137=>((ebbtidelaw14_Line.f true).bind fun bt139=>((timecut_Check.f bt139.1 bt139.2.1 bt139.2.2 0 2 2 (([(⟨0,0⟩:S53),(⟨0,1⟩:S53),(⟨0,2⟩:S53),(⟨1,1⟩:S53),(⟨1,2⟩:S53)]:List (S53)))).bind fun bt147=>((ebbtidelaw14_Line.f true).bind fun bt149=>(if 2≤(y129.length:Int) then((timecut_Check.f bt149.1 bt149.2.1 bt149.2.2 0 2 2 (y129.take 2)).bind fun bt158=>((ebbtidelaw14_Line.f true).bind fun bt160=>((timecut_From.f k bt160.1 bt160.2.1 bt160.2.2 2 (([0,3,9]:List Int))).bind fun bt168=>(if bt137.2=0 then(if bt137.1=4 then(if bt147.2=0 then(if bt147.1=2 then(if bt158.2=181 then(if bt168.2=0 then((ebbtideref03_SameSlots.f k bt168.1 y129).bind fun t172=>(some t172)) else(some false)) else(some false)) else(some false)) else(some false)) else(some false)) else(some false))))) else(none))))))=some r:=H;have A1:=Ya A10;clear A10;replace H:=Option.bind_eq_some_iff.mp H;obtain⟨⟨t137,t138⟩,A20,H⟩:=H;replace H:((ebbtidelaw14_Line.f true).bind fun bt139=>((timecut_Check.f bt139.1 bt139.2.1 bt139.2.2 0 2 2 (([(⟨0,0⟩:S53),(⟨0,1⟩:S53),(⟨0,2⟩:S53),(⟨1,1⟩:S53),(⟨1,2⟩:S53)]:List (S53)))).bind fun bt147=>((ebbtidelaw14_Line.f true).bind fun bt149=>(if 2≤(y129.length:Int) then((timecut_Check.f bt149.1 bt149.2.1 bt149.2.2 0 2 2 (y129.take 2)).bind fun bt158=>((ebbtidelaw14_Line.f true).bind fun bt160=>((timecut_From.f k bt160.1 bt160.2.1 bt160.2.2 2 (([0,3,9]:List Int))).bind fun bt168=>(if t138=0 then(if t137=4 then(if bt147.2=0 then(if bt147.1=2 then(if bt158.2=181 then(if bt168.2=0 then((ebbtideref03_SameSlots.f k bt168.1 y129).bind fun t172=>(some t172)) else(some false)) else(some false)) else(some false)) else(some false)) else(some false)) else(some false))))) else(none)))))=some r:=H;have A2:=Ya A20;clear A20;replace H:=Option.bind_eq_some_iff.mp H;obtain⟨⟨t139,t140,t141⟩,A30,H⟩:=H;replace H:((timecut_Check.f t139 t140 t141 0 2 2 (([(⟨0,0⟩:S53),(⟨0,1⟩:S53),(⟨0,2⟩:S53),(⟨1,1⟩:S53),(⟨1,2⟩:S53)]:List (S53)))).bind fun bt147=>((ebbtidelaw14_Line.f true).bind fun bt149=>(if 2≤(y129.length:Int) then((timecut_Check.f bt149.1 bt149.2.1 bt149.2.2 0 2 2 (y129.take 2)).bind fun bt158=>((ebbtidelaw14_Line.f true).bind fun bt160=>((timecut_From.f k bt160.1 bt160.2.1 bt160.2.2 2 (([0,3,9]:List Int))).bind fun bt168=>(if t138=0 then(if t137=4 then(if bt147.2=0 then(if bt147.1=2 then(if bt158.2=181 then(if bt168.2=0 then((ebbtideref03_SameSlots.f k bt168.1 y129).bind fun t172=>(some t172)) else(some false)) else(some false)) else(some false)) else(some false)) else(some false)) else(some false))))) else(none))))=some r:=H;have A3:=Ya A30;clear A30;obtain⟨y144,hy144⟩: ∃ y_:List (S53),y_=(([(⟨0,0⟩:S53),(⟨0,1⟩:S53),(⟨0,2⟩:S53),(⟨1,1⟩:S53),(⟨1,2⟩:S53)]:List (S53))):=⟨_,rfl⟩;replace H:((timecut_Check.f t139 t140 t141 0 2 2 y144).bind fun bt147=>((ebbtidelaw14_Line.f true).bind fun bt149=>(if 2≤(y129.length:Int) then((timecut_Check.f bt149.1 bt149.2.1 bt149.2.2 0 2 2 (y129.take 2)).bind fun bt158=>((ebbtidelaw14_Line.f true).bind fun bt160=>((timecut_From.f k bt160.1 bt160.2.1 bt160.2.2 2 (([0,3,9]:List Int))).bind fun bt168=>(if t138=0 then(if t137=4 then(if bt147.2=0 then(if bt147.1=2 then(if bt158.2=181 then(if bt168.2=0 then((ebbtideref03_SameSlots.f k bt168.1 y129).bind fun t172=>(some t172)) else(some false)) else(some false)) else(some false)) else(some false)) else(some false)) else(some false))))) else(none))))=some r:=by first|(rw[hy144];with_reducible exact H)|(have H2_:=(Option.bind_some _ _).symm.trans H;rw[hy144];with_reducible exact H2_)|(have H2_:=(Option.bind_some _ _).symm.trans H;with_reducible exact H2_)|with_reducible exact H|(rw[hy144];exact H)|exact H
 have Ny144:=Ya hy144;clear hy144;replace H:=Option.bind_eq_some_iff.mp H;obtain⟨⟨t147,t148⟩,A40,H⟩:=H;replace H:((ebbtidelaw14_Line.f true).bind fun bt149=>(if 2≤(y129.length:Int) then((timecut_Check.f bt149.1 bt149.2.1 bt149.2.2 0 2 2 (y129.take 2)).bind fun bt158=>((ebbtidelaw14_Line.f true).bind fun bt160=>((timecut_From.f k bt160.1 bt160.2.1 bt160.2.2 2 (([0,3,9]:List Int))).bind fun bt168=>(if t138=0 then(if t137=4 then(if t148=0 then(if t147=2 then(if bt158.2=181 then(if bt168.2=0 then((ebbtideref03_SameSlots.f k bt168.1 y129).bind fun t172=>(some t172)) else(some false)) else(some false)) else(some false)) else(some false)) else(some false)) else(some false))))) else(none)))=some r:=H;have A4:=Ya A40;clear A40;replace H:=Option.bind_eq_some_iff.mp H;obtain⟨⟨t149,t150,t151⟩,A50,H⟩:=H;replace H:(if 2≤(y129.length:Int) then((timecut_Check.f t149 t150 t151 0 2 2 (y129.take 2)).bind fun bt158=>((ebbtidelaw14_Line.f true).bind fun bt160=>((timecut_From.f k bt160.1 bt160.2.1 bt160.2.2 2 (([0,3,9]:List Int))).bind fun bt168=>(if t138=0 then(if t137=4 then(if t148=0 then(if t147=2 then(if bt158.2=181 then(if bt168.2=0 then((ebbtideref03_SameSlots.f k bt168.1 y129).bind fun t172=>(some t172)) else(some false)) else(some false)) else(some false)) else(some false)) else(some false)) else(some false))))) else(none))=some r:=H;have A5:=Ya A50;clear A50;by_cases c6:2≤(y129.length:Int)
 rotate_left
 ·rw[Yy c6] at H
  exact absurd H (by simp)
 rw[Yx c6] at H;have c6b0:=eq_true c6;have c6b1:decide (2≤(y129.length:Int))=true:=Yv c6;clear c6;obtain⟨y154,hy154⟩: ∃ y_:List (S53),y_=(y129.take 2):=⟨_,rfl⟩;replace H:((timecut_Check.f t149 t150 t151 0 2 2 y154).bind fun bt158=>((ebbtidelaw14_Line.f true).bind fun bt160=>((timecut_From.f k bt160.1 bt160.2.1 bt160.2.2 2 (([0,3,9]:List Int))).bind fun bt168=>(if t138=0 then(if t137=4 then(if t148=0 then(if t147=2 then(if bt158.2=181 then(if bt168.2=0 then((ebbtideref03_SameSlots.f k bt168.1 y129).bind fun t172=>(some t172)) else(some false)) else(some false)) else(some false)) else(some false)) else(some false)) else(some false)))))=some r:=by first|(rw[hy154];with_reducible exact H)|(have H2_:=(Option.bind_some _ _).symm.trans H;rw[hy154];with_reducible exact H2_)|(have H2_:=(Option.bind_some _ _).symm.trans H;with_reducible exact H2_)|with_reducible exact H|(rw[hy154];exact H)|exact H
 have Ny154:=Ya hy154;clear hy154;replace H:=Option.bind_eq_some_iff.mp H;obtain⟨⟨t158,t159⟩,A70,H⟩:=H;replace H:((ebbtidelaw14_Line.f true).bind fun bt160=>((timecut_From.f k bt160.1 bt160.2.1 bt160.2.2 2 (([0,3,9]:List Int))).bind fun bt168=>(if t138=0 then(if t137=4 then(if t148=0 then(if t147=2 then(if t159=181 then(if bt168.2=0 then((ebbtideref03_SameSlots.f k bt168.1 y129).bind fun t172=>(some t172)) else(some false)) else(some false)) else(some false)) else(some false)) else(some false)) else(some false))))=some r:=H;have A7:=Ya A70;clear A70;replace H:=Option.bind_eq_some_iff.mp H;obtain⟨⟨t160,t161,t162⟩,A80,H⟩:=H;replace H:((timecut_From.f k t160 t161 t162 2 (([0,3,9]:List Int))).bind fun bt168=>(if t138=0 then(if t137=4 then(if t148=0 then(if t147=2 then(if t159=181 then(if bt168.2=0 then((ebbtideref03_SameSlots.f k bt168.1 y129).bind fun t172=>(some t172)) else(some false)) else(some false)) else(some false)) else(some false)) else(some false)) else(some false)))=some r:=H;have A8:=Ya A80;clear A80;obtain⟨y165,hy165⟩: ∃ y_:List Int,y_=(([0,3,9]:List Int)):=⟨_,rfl⟩;replace H:((timecut_From.f k t160 t161 t162 2 y165).bind fun bt168=>(if t138=0 then(if t137=4 then(if t148=0 then(if t147=2 then(if t159=181 then(if bt168.2=0 then((ebbtideref03_SameSlots.f k bt168.1 y129).bind fun t172=>(some t172)) else(some false)) else(some false)) else(some false)) else(some false)) else(some false)) else(some false)))=some r:=by first|(rw[hy165];with_reducible exact H)|(have H2_:=(Option.bind_some _ _).symm.trans H;rw[hy165];with_reducible exact H2_)|(have H2_:=(Option.bind_some _ _).symm.trans H;with_reducible exact H2_)|with_reducible exact H|(rw[hy165];exact H)|exact H
 have Ny165:=Ya hy165;clear hy165;replace H:=Option.bind_eq_some_iff.mp H;obtain⟨⟨t168,t171⟩,A90,H⟩:=H;replace H:(if t138=0 then(if t137=4 then(if t148=0 then(if t147=2 then(if t159=181 then(if t171=0 then((ebbtideref03_SameSlots.f k t168 y129).bind fun t172=>(some t172)) else(some false)) else(some false)) else(some false)) else(some false)) else(some false)) else(some false))=some r:=H;have A9:=Ya A90;clear A90;by_cases c10:t138=0
 rotate_left
 ·rw[Yy c10] at H
  exact absurd (Option.some.inj H) (by rw[HRT.out];decide)
 rw[Yx c10] at H;have c10b0:(t138 == 0)=true:=beq_iff_eq.mpr c10;have c10b1:(t138 != 0)=false:=bne_eq_false_iff_eq.mpr c10;clear c10;by_cases c11:t137=4
 rotate_left
 ·rw[Yy c11] at H
  exact absurd (Option.some.inj H) (by rw[HRT.out];decide)
 rw[Yx c11] at H;have c11b0:(t137 == 4)=true:=beq_iff_eq.mpr c11;have c11b1:(t137 != 4)=false:=bne_eq_false_iff_eq.mpr c11;clear c11;by_cases c12:t148=0
 rotate_left
 ·rw[Yy c12] at H
  exact absurd (Option.some.inj H) (by rw[HRT.out];decide)
 rw[Yx c12] at H;have c12b0:(t148 == 0)=true:=beq_iff_eq.mpr c12;have c12b1:(t148 != 0)=false:=bne_eq_false_iff_eq.mpr c12;clear c12;by_cases c13:t147=2
 rotate_left
 ·rw[Yy c13] at H
  exact absurd (Option.some.inj H) (by rw[HRT.out];decide)
 rw[Yx c13] at H;have c13b0:(t147 == 2)=true:=beq_iff_eq.mpr c13;have c13b1:(t147 != 2)=false:=bne_eq_false_iff_eq.mpr c13;clear c13;by_cases c14:t159=181
 rotate_left
 ·rw[Yy c14] at H
  exact absurd (Option.some.inj H) (by rw[HRT.out];decide)
 rw[Yx c14] at H;have c14b0:(t159 == 181)=true:=beq_iff_eq.mpr c14;have c14b1:(t159 != 181)=false:=bne_eq_false_iff_eq.mpr c14;clear c14;by_cases c15:t171=0
 rotate_left
 ·rw[Yy c15] at H
  exact absurd (Option.some.inj H) (by rw[HRT.out];decide)
 rw[Yx c15] at H;have c15b0:(t171 == 0)=true:=beq_iff_eq.mpr c15;have c15b1:(t171 != 0)=false:=bne_eq_false_iff_eq.mpr c15;clear c15;replace H:=Option.bind_eq_some_iff.mp H;obtain⟨t172,A160,H⟩:=H;replace H:(some t172)=some r:=H;have A16:=Ya A160;clear A160;obtain rfl:=Option.some.inj H;go_enter Try.func7,Try.ntmps7;try go_wp2_with (first|((with_reducible refine gate_dst (N:=13) rfl ?_);refine Kd.R_lit k53 _ 53 ?hg (N:=13) ?hd (xs:=([(⟨0,0⟩:S53),(⟨0,1⟩:S53),(⟨0,2⟩:S53)]:List (S53))) (inner:=[.int .i64 0, .int .i64 0, .int .i64 0, .int .i64 1, .int .i64 0, .int .i64 2]) (ok:=fun _=>True) (okp:=fun _=>True) ?hr ?hp (fun _ hk=>hk) trivial (Yo _ _) (Nat.le_refl _) (by simp) ?_;(case hd=>rfl);(case hg=>rfl);(case hr=>first|(go_simp;done)|(go_simp;rfl));(case hp=>exact(Reps.c2 (show Kd.M k53 _ _ _ (⟨0,0⟩:S53) [.int .i64 0, .int .i64 0] from(k53_mkM _ _ _ (⟨0,0⟩:S53) )) (Reps.c2 (show Kd.M k53 _ _ _ (⟨0,1⟩:S53) [.int .i64 0, .int .i64 1] from(k53_mkM _ _ _ (⟨0,1⟩:S53) )) (Reps.c2 (show Kd.M k53 _ _ _ (⟨0,2⟩:S53) [.int .i64 0, .int .i64 2] from(k53_mkM _ _ _ (⟨0,2⟩:S53) )) (Reps.none _ _)))));intro v130 w17 ho18 hb hg_ hnew_;clear hg_ hnew_;(first|rw[← Ny129.out] at ho18|(simp only[Int.reduceToNat] at ho18;rw[← Ny129.out] at ho18));have n0_:=Ya (Kd.R_lower ho18 (Yi (by repeat(first|(with_reducible first|exact HB.out|apply Ye|apply Yd|apply Yg)|exact HB.out))));have n1_:=Ya (Yk (by repeat(first|(with_reducible first|exact HB.out|apply Ye|apply Yd|apply Yg)|exact HB.out)) hb);clear HB;have Xz:=n0_;have HB:=n1_;clear n0_ n1_;clear hb ho18)|((with_reducible refine gate_callee (f:=17) rfl ?_);refine goesL_ (some 15) rfl rfl Try.func17 (by kernel_rfl) rfl #[.bool true] rfl (by(try simp only[List.map_toArray,List.map_cons,List.map_nil]);first|done|rfl|(simp only[List.length_drop,List.length_take];rfl)) ?_;(with_reducible refine(ebbtidelaw14_Line.calls true t132 t133 t134 _ A1.out).mono ?_);rintro e w19 ⟨v135,rfl,ho0,hb⟩;refine⟨_,rfl,?_⟩;have n0_:=Ya (Ys (by(with_reducible repeat(first|apply Yr|apply Yq|apply Yp));exact Xz.out) hb);have n1_:=Ya (Kd.R_lower ho0 (Yi (by repeat(first|(with_reducible first|exact HB.out|apply Ye|apply Yd|apply Yg)|exact HB.out))));have n2_:=Ya (Yk (by repeat(first|(with_reducible first|exact HB.out|apply Ye|apply Yd|apply Yg)|exact HB.out)) hb);clear Xz;clear HB;have Xz:=n0_;have Wf:=n1_;have HB:=n2_;clear n0_ n1_ n2_;(try clear hb);(try clear hb2);(try clear hk);(try clear hi);(try clear ho0);obtain⟨Ao20,co20,eo20⟩:=Kd.R_slice Wf.out;subst eo20;obtain⟨Ao21,co21,eo21⟩:=Kd.R_slice Xz.out;subst eo21)|((with_reducible refine gate_callee (f:=10) rfl ?_);refine goesL_ (some 17) rfl rfl Try.func10 (by kernel_rfl) rfl #[.agg #[.int .i64 t132, .bool t133, .slice Ao20 t134.length co20], .int .i64 0, .int .i64 2, .int .i64 2, .slice Ao21 y129.length co21] rfl (by(try simp only[List.map_toArray,List.map_cons,List.map_nil]);first|done|rfl|(simp only[List.length_drop,List.length_take];rfl)) ?_;(with_reducible refine(timecut_Check.calls t132 t133 _ _ t134 0 2 2 _ _ y129 t137 t138 _ ?side1 ?side2 ?side3 ?side4 A2.out).mono ?_);(case side1=>repeat(first|exact(Kd.R_reads' Wf.out).2.2|(with_reducible refine Kd.C_alloc ?_ _)|(with_reducible refine Kd.C_drewN ?_ _)|(with_reducible refine Kd.C_drew ?_)));(case side2=>exact(Kd.R_reads' Wf.out).2.1);(case side3=>repeat(first|exact(Kd.R_reads' Xz.out).2.2|(with_reducible refine Kd.C_alloc ?_ _)|(with_reducible refine Kd.C_drewN ?_ _)|(with_reducible refine Kd.C_drew ?_)));(case side4=>exact(Kd.R_reads' Xz.out).2.1);rintro e w22 ⟨rfl,hb⟩;refine⟨_,rfl,?_⟩;have n0_:=Ya (Ys (by(with_reducible repeat(first|apply Yr|apply Yq|apply Yp));exact Xz.out) hb);have n1_:=Ya (Ys (by(with_reducible repeat(first|apply Yr|apply Yq|apply Yp));exact Wf.out) hb);have n2_:=Ya (Yk (by repeat(first|(with_reducible first|exact HB.out|apply Ye|apply Yd|apply Yg)|exact HB.out)) hb);clear Xz;clear Wf;clear HB;have Xz:=n0_;have Wf:=n1_;have HB:=n2_;clear n0_ n1_ n2_;(try clear hb);(try clear hb2);(try clear hk);(try clear hi))|((with_reducible refine gate_callee (f:=17) rfl ?_);refine goesL_ (some 21) rfl rfl Try.func17 (by kernel_rfl) rfl #[.bool true] rfl (by(try simp only[List.map_toArray,List.map_cons,List.map_nil]);first|done|rfl|(simp only[List.length_drop,List.length_take];rfl)) ?_;(with_reducible refine(ebbtidelaw14_Line.calls true t139 t140 t141 _ A3.out).mono ?_);rintro e w23 ⟨v142,rfl,ho0,hb⟩;refine⟨_,rfl,?_⟩;have n0_:=Ya (Ys (by(with_reducible repeat(first|apply Yr|apply Yq|apply Yp));exact Xz.out) hb);have n1_:=Ya (Kd.R_elder' (by(with_reducible repeat(first|apply Yr|apply Yq|apply Yp));exact Wf.out) (Kd.R_base ho0) hb);have n2_:=Ya (Kd.R_lower (Kd.R_new' ho0 (Kd.R_lt (by(with_reducible repeat(first|apply Yr|apply Yq|apply Yp));exact Wf.out))) (Yi (by repeat(first|(with_reducible first|exact HB.out|apply Ye|apply Yd|apply Yg)|exact HB.out))));have n3_:=Ya (Yk (by repeat(first|(with_reducible first|exact HB.out|apply Ye|apply Yd|apply Yg)|exact HB.out)) hb);clear Xz;clear Wf;clear HB;have Xz:=n0_;have Wf:=n1_;have Vb:=n2_;have HB:=n3_;clear n0_ n1_ n2_ n3_;(try clear hb);(try clear hb2);(try clear hk);(try clear hi);(try clear ho0))|((with_reducible refine gate_dst (N:=27) rfl ?_);refine Kd.R_lit k53 _ 53 ?hg (N:=27) ?hd (xs:=([(⟨0,0⟩:S53),(⟨0,1⟩:S53),(⟨0,2⟩:S53),(⟨1,1⟩:S53),(⟨1,2⟩:S53)]:List (S53))) (inner:=[.int .i64 0, .int .i64 0, .int .i64 0, .int .i64 1, .int .i64 0, .int .i64 2, .int .i64 1, .int .i64 1, .int .i64 1, .int .i64 2]) (ok:=fun _=>True) (okp:=fun _=>True) ?hr ?hp (fun _ hk=>hk) trivial (Yo _ _) (Nat.le_refl _) (by simp) ?_;(case hd=>rfl);(case hg=>rfl);(case hr=>first|(go_simp;done)|(go_simp;rfl));(case hp=>exact(Reps.c2 (show Kd.M k53 _ _ _ (⟨0,0⟩:S53) [.int .i64 0, .int .i64 0] from(k53_mkM _ _ _ (⟨0,0⟩:S53) )) (Reps.c2 (show Kd.M k53 _ _ _ (⟨0,1⟩:S53) [.int .i64 0, .int .i64 1] from(k53_mkM _ _ _ (⟨0,1⟩:S53) )) (Reps.c2 (show Kd.M k53 _ _ _ (⟨0,2⟩:S53) [.int .i64 0, .int .i64 2] from(k53_mkM _ _ _ (⟨0,2⟩:S53) )) (Reps.c2 (show Kd.M k53 _ _ _ (⟨1,1⟩:S53) [.int .i64 1, .int .i64 1] from(k53_mkM _ _ _ (⟨1,1⟩:S53) )) (Reps.c2 (show Kd.M k53 _ _ _ (⟨1,2⟩:S53) [.int .i64 1, .int .i64 2] from(k53_mkM _ _ _ (⟨1,2⟩:S53) )) (Reps.none _ _)))))));intro v145 w24 ho25 hb hg_ hnew_;clear hg_ hnew_;(first|rw[← Ny144.out] at ho25|(simp only[Int.reduceToNat] at ho25;rw[← Ny144.out] at ho25));have n0_:=Ya (Kd.R_elder' (by(with_reducible repeat(first|apply Yr|apply Yq|apply Yp));exact Xz.out) (Kd.R_base ho25) hb);have n1_:=Ya (Ys (by(with_reducible repeat(first|apply Yr|apply Yq|apply Yp));exact Wf.out) hb);have n2_:=Ya (Ys (by(with_reducible repeat(first|apply Yr|apply Yq|apply Yp));exact Vb.out) hb);have n3_:=Ya (Kd.R_lower (Kd.R_new' ho25 (Kd.R_lt (by(with_reducible repeat(first|apply Yr|apply Yq|apply Yp));exact Xz.out))) (Yi (by repeat(first|(with_reducible first|exact HB.out|apply Ye|apply Yd|apply Yg)|exact HB.out))));have n4_:=Ya (Yk (by repeat(first|(with_reducible first|exact HB.out|apply Ye|apply Yd|apply Yg)|exact HB.out)) hb);clear Xz;clear Wf;clear Vb;clear HB;have Xz:=n0_;have Wf:=n1_;have Vb:=n2_;have Vf:=n3_;have HB:=n4_;clear n0_ n1_ n2_ n3_ n4_;clear hb ho25;obtain⟨Ao26,co26,eo26⟩:=Kd.R_slice Vb.out;subst eo26;obtain⟨Ao27,co27,eo27⟩:=Kd.R_slice Vf.out;subst eo27)|((with_reducible refine gate_callee (f:=10) rfl ?_);refine goesL_ (some 28) rfl rfl Try.func10 (by kernel_rfl) rfl #[.agg #[.int .i64 t139, .bool t140, .slice Ao26 t141.length co26], .int .i64 0, .int .i64 2, .int .i64 2, .slice Ao27 y144.length co27] rfl (by(try simp only[List.map_toArray,List.map_cons,List.map_nil]);first|done|rfl|(simp only[List.length_drop,List.length_take];rfl)) ?_;(with_reducible refine(timecut_Check.calls t139 t140 _ _ t141 0 2 2 _ _ y144 t147 t148 _ ?side1 ?side2 ?side3 ?side4 A4.out).mono ?_);(case side1=>repeat(first|exact(Kd.R_reads' Vb.out).2.2|(with_reducible refine Kd.C_alloc ?_ _)|(with_reducible refine Kd.C_drewN ?_ _)|(with_reducible refine Kd.C_drew ?_)));(case side2=>exact(Kd.R_reads' Vb.out).2.1);(case side3=>repeat(first|exact(Kd.R_reads' Vf.out).2.2|(with_reducible refine Kd.C_alloc ?_ _)|(with_reducible refine Kd.C_drewN ?_ _)|(with_reducible refine Kd.C_drew ?_)));(case side4=>exact(Kd.R_reads' Vf.out).2.1);rintro e w28 ⟨rfl,hb⟩;refine⟨_,rfl,?_⟩;have n0_:=Ya (Ys (by(with_reducible repeat(first|apply Yr|apply Yq|apply Yp));exact Xz.out) hb);have n1_:=Ya (Ys (by(with_reducible repeat(first|apply Yr|apply Yq|apply Yp));exact Wf.out) hb);have n2_:=Ya (Ys (by(with_reducible repeat(first|apply Yr|apply Yq|apply Yp));exact Vb.out) hb);have n3_:=Ya (Ys (by(with_reducible repeat(first|apply Yr|apply Yq|apply Yp));exact Vf.out) hb);have n4_:=Ya (Yk (by repeat(first|(with_reducible first|exact HB.out|apply Ye|apply Yd|apply Yg)|exact HB.out)) hb);clear Xz;clear Wf;clear Vb;clear Vf;clear HB;have Xz:=n0_;have Wf:=n1_;have Vb:=n2_;have Vf:=n3_;have HB:=n4_;clear n0_ n1_ n2_ n3_ n4_;(try clear hb);(try clear hb2);(try clear hk);(try clear hi)))
 have n0_:=Ya (Yp Xz.out);have n1_:=Ya (Yp Wf.out);have n2_:=Ya (Yp Vb.out);have n3_:=Ya (Yp Vf.out);have n4_:=Ya (Yg HB.out);clear Xz;clear Wf;clear Vb;clear Vf;clear HB;have Xz:=n0_;have Wf:=n1_;have Vb:=n2_;have Vf:=n3_;have HB:=n4_;clear n0_ n1_ n2_ n3_ n4_;have q30:(2:Int)≤((y129.length:Int):Int):=Yu (by first|(with_reducible assumption)|assumption);obtain⟨i030,hi030,_,hsz30,_⟩:=info_parts info53;have hroom30:y129.length≤co21:=(Kd.R_reads' Xz.out).2.1;have hC30:Kd.C k53 _ Ao21 y129.length y129:=(Kd.R_reads' Xz.out).2.2;have hcut30:=cut_to (P:=Try.prog) 40 53 .i64 Try.underlying40 hi030 Ao21 y129.length co21 2 (by omega) q30 hroom30;have hr30:=Kd.C_take (m:=2) hC30 (by omega);have hy30:y154.length=(2:Int).toNat:=(by rw[Ny154.out,List.length_take];omega);rw[← Ny154.out] at hr30;rw[← hy30] at hcut30;have Vx:=Ya hr30;have HC157:=Ya (show y154.length≤co21 from by omega);clear hr30 hC30 hroom30 hi030 hsz30;have KY30:=Ya hy30;clear hy30;have KL30:=Ya (show 2≤y129.length from by omega);replace q30:=eq_true q30;refine start_ (n:=9) (S:=fun w'=>True) (ds:=[]) #[false,false,false,false,false,false,false,false,false] (by kernel_rfl) rfl rfl trivial (fun hHeld=> ?_);refine with_tabW ebbtidelaw18_awake.tab4 ebbtidelaw18_awake.bits4 (fun HT_ HW_=> ?_);generalize w28.drew=w29 at Xz Wf Vb Vf HB Vx hHeld ⊢;refine pure_ (i:=1) (N:=some 33) (v:= ?_) (a':= ?_) #[false,true,false,false,false,false,false,false,false] rfl rfl (any_of HT_.out (by kernel_rfl)) (fun _ _ _ h=>h) (Or.inl ⟨by rfl,?_⟩) ?_ ?_
 rotate_left
 ·intro w'
  go_simp
  with_reducible rfl
 rotate_left
 ·simp only[Act.put,List.setIfInBounds_toArray,List.set_cons_zero,List.set_cons_succ,i64_w,i32_w]
  rfl
 refine pure_ (i:=2) (N:=some 34) (v:= ?_) (a':= ?_) #[false,true,true,false,false,false,false,false,false] rfl rfl (any_of HT_.out (by kernel_rfl)) (fun _ _ _ h=>h) (Or.inl ⟨by rfl,?_⟩) ?_ ?_
 rotate_left
 ·intro w'
  go_simp
  with_reducible rfl
 rotate_left
 ·simp only[Act.put,List.setIfInBounds_toArray,List.set_cons_zero,List.set_cons_succ,i64_w,i32_w]
  rfl
 refine one_ (i:=0) (N:=some 32) #[true,true,true,false,false,false,false,false,false] rfl rfl (one_of HT_.out (by kernel_rfl)) (by decide) (fun K hK=> ?_);refine goes_ Try.func17 (by kernel_rfl) rfl #[.bool true] (by rfl) rfl rfl (by(try simp only[List.map_toArray,List.map_cons,List.map_nil]);first|done|rfl|(simp only[List.length_drop,List.length_take];rfl)) ?_
 with_reducible refine(ebbtidelaw14_Line.calls true t149 t150 t151 _ A5.out).mono ?_
 rintro e w31 ⟨v152,rfl,ho0,hb⟩;refine⟨_,rfl,?_⟩;have n0_:=Ya (Ys (by(with_reducible repeat(first|apply Yr|apply Yq|apply Yp));exact Xz.out) hb);have n1_:=Ya (Kd.R_elder' (by(with_reducible repeat(first|apply Yr|apply Yq|apply Yp));exact Wf.out) (Kd.R_base ho0) hb);have n2_:=Ya (Kd.R_elder' (by(with_reducible repeat(first|apply Yr|apply Yq|apply Yp));exact Vb.out) (Kd.R_base ho0) hb);have n3_:=Ya (Ys (by(with_reducible repeat(first|apply Yr|apply Yq|apply Yp));exact Vf.out) hb);have n4_:=Ya (Kd.R_lower (Kd.R_new' (Kd.R_new' ho0 (Kd.R_lt (by(with_reducible repeat(first|apply Yr|apply Yq|apply Yp));exact Wf.out))) (Kd.R_lt (by(with_reducible repeat(first|apply Yr|apply Yq|apply Yp));exact Vb.out))) (Yi (by repeat(first|(with_reducible first|exact HB.out|apply Ye|apply Yd|apply Yg)|exact HB.out))));have n5_:=Ya (Yt (by repeat(first|(with_reducible exact Vx.out)|(with_reducible refine Kd.C_alloc ?_ _)|(with_reducible refine Kd.C_drewN ?_ _)|(with_reducible refine Kd.C_drew ?_)|exact Vx.out)) hb);have n6_:=Ya (Yk (by repeat(first|(with_reducible first|exact HB.out|apply Ye|apply Yd|apply Yg)|exact HB.out)) hb);clear Xz;clear Wf;clear Vb;clear Vf;clear Vx;clear HB;have Xz:=n0_;have Wf:=n1_;have Vb:=n2_;have Vf:=n3_;have Js:=n4_;have Vx:=n5_;have HB:=n6_;clear n0_ n1_ n2_ n3_ n4_ n5_ n6_
 (try clear hb)
 (try clear hb2)
 (try clear hk)
 (try clear hi)
 (try clear ho0)
 obtain⟨Ao32,co32,eo32⟩:=Kd.R_slice Js.out
 (first|subst eo32|(injection eo32 with f1_ f2_ f3_;have f4_:=f1_.symm;have f5_:=f3_.symm;clear f1_ f2_ f3_;subst f4_;subst f5_))
 refine hK.out _ _ trivial (fun hHeld=> ?_);clear hK K;refine norm_ (a':= ?_) ?_ ?_
 rotate_left
 ·show Act.put _ (some 32) _=_
  simp only[Act.put,List.setIfInBounds_toArray,List.set_cons_zero,List.set_cons_succ,i64_w,i32_w];rfl
 refine one_ (i:=3) (N:=some 35) #[true,true,true,true,false,false,false,false,false] rfl rfl (one_of HT_.out (by kernel_rfl)) (by decide) (fun K hK=> ?_);refine goes_ Try.func10 (by kernel_rfl) rfl #[.agg #[.int .i64 t149, .bool t150, .slice Ao32 t151.length co32], .int .i64 0, .int .i64 2, .int .i64 2, .slice Ao21 y154.length co21] (by rfl) rfl rfl (by(try simp only[List.map_toArray,List.map_cons,List.map_nil]);first|done|rfl|(simp only[List.length_drop,List.length_take];rfl)) ?_
 with_reducible refine(timecut_Check.calls t149 t150 _ _ t151 0 2 2 _ _ y154 t158 t159 _ ?side1 ?side2 ?side3 ?side4 A7.out).mono ?_
 (case side1=>repeat(first|exact(Kd.R_reads' Js.out).2.2|(with_reducible refine Kd.C_alloc ?_ _)|(with_reducible refine Kd.C_drewN ?_ _)|(with_reducible refine Kd.C_drew ?_)))
 (case side2=>exact(Kd.R_reads' Js.out).2.1)
 (case side3=>repeat(first|exact(by repeat(first|(with_reducible exact Vx.out)|(with_reducible refine Kd.C_alloc ?_ _)|(with_reducible refine Kd.C_drewN ?_ _)|(with_reducible refine Kd.C_drew ?_)|exact Vx.out))|(with_reducible refine Kd.C_alloc ?_ _)|(with_reducible refine Kd.C_drewN ?_ _)|(with_reducible refine Kd.C_drew ?_)))
 (case side4=>exact HC157.out)
 rintro e w33 ⟨rfl,hb⟩;refine⟨_,rfl,?_⟩;have n0_:=Ya (Ys (by(with_reducible repeat(first|apply Yr|apply Yq|apply Yp));exact Xz.out) hb);have n1_:=Ya (Ys (by(with_reducible repeat(first|apply Yr|apply Yq|apply Yp));exact Wf.out) hb);have n2_:=Ya (Ys (by(with_reducible repeat(first|apply Yr|apply Yq|apply Yp));exact Vb.out) hb);have n3_:=Ya (Ys (by(with_reducible repeat(first|apply Yr|apply Yq|apply Yp));exact Vf.out) hb);have n4_:=Ya (Ys (by(with_reducible repeat(first|apply Yr|apply Yq|apply Yp));exact Js.out) hb);have n5_:=Ya (Yt (by repeat(first|(with_reducible exact Vx.out)|(with_reducible refine Kd.C_alloc ?_ _)|(with_reducible refine Kd.C_drewN ?_ _)|(with_reducible refine Kd.C_drew ?_)|exact Vx.out)) hb);have n6_:=Ya (Yk (by repeat(first|(with_reducible first|exact HB.out|apply Ye|apply Yd|apply Yg)|exact HB.out)) hb);clear Xz;clear Wf;clear Vb;clear Vf;clear Js;clear Vx;clear HB;have Xz:=n0_;have Wf:=n1_;have Vb:=n2_;have Vf:=n3_;have Js:=n4_;have Vx:=n5_;have HB:=n6_;clear n0_ n1_ n2_ n3_ n4_ n5_ n6_
 (try clear hb)
 (try clear hb2)
 (try clear hk)
 (try clear hi)
 refine hK.out _ _ trivial (fun hHeld=> ?_);clear hK K;refine norm_ (a':= ?_) ?_ ?_
 rotate_left
 ·show Act.put _ (some 35) _=_
  simp only[Act.put,List.setIfInBounds_toArray,List.set_cons_zero,List.set_cons_succ,i64_w,i32_w];rfl
 refine pure_ (i:=4) (N:=some 31) (v:= ?_) (a':= ?_) #[true,true,true,true,true,false,false,false,false] rfl rfl (any_of HT_.out (by kernel_rfl)) (fun _ _ _ h=>h) (Or.inl ⟨by rfl,?_⟩) ?_ ?_
 rotate_left
 ·intro w'
  go_simp
  with_reducible rfl
 rotate_left
 ·simp only[Act.put,List.setIfInBounds_toArray,List.set_cons_zero,List.set_cons_succ,i64_w,i32_w]
  rfl
 refine pure_ (i:=5) (N:=some 36) (v:= ?_) (a':= ?_) #[true,true,true,true,true,true,false,false,false] rfl rfl (any_of HT_.out (by kernel_rfl)) (fun _ _ _ h=>h) (Or.inl ⟨by rfl,?_⟩) ?_ ?_
 rotate_left
 ·intro w'
  go_simp
  with_reducible rfl
 rotate_left
 ·simp only[Act.put,List.setIfInBounds_toArray,List.set_cons_zero,List.set_cons_succ,i64_w,i32_w]
  rfl
 refine pure_ (i:=6) (N:=some 37) (v:= ?_) (a':= ?_) #[true,true,true,true,true,true,true,false,false] rfl rfl (any_of HT_.out (by kernel_rfl)) (fun _ _ _ h=>h) (Or.inl ⟨by rfl,?_⟩) ?_ ?_
 rotate_left
 ·intro w'
  go_simp
  with_reducible rfl
 rotate_left
 ·simp only[Act.put,List.setIfInBounds_toArray,List.set_cons_zero,List.set_cons_succ,i64_w,i32_w]
  rfl
 refine pure_ (i:=7) (N:=some 6) (v:= ?_) (a':= ?_) #[true,true,true,true,true,true,true,true,false] rfl rfl (any_of HT_.out (by kernel_rfl)) (fun _ _ _ h=>h) (Or.inl ⟨by rfl,?_⟩) ?_ ?_
 rotate_left
 ·intro w'
  go_simp
  with_reducible rfl
 rotate_left
 ·simp only[Act.put,List.setIfInBounds_toArray,List.set_cons_zero,List.set_cons_succ,i64_w,i32_w]
  rfl
 refine pure_ (i:=8) (N:=some 7) (v:= ?_) (a':= ?_) #[true,true,true,true,true,true,true,true,true] rfl rfl (any_of HT_.out (by kernel_rfl)) (fun _ _ _ h=>h) (Or.inl ⟨by rfl,?_⟩) ?_ ?_
 rotate_left
 ·intro w'
  go_simp
  with_reducible rfl
 rotate_left
 ·simp only[Act.put,List.setIfInBounds_toArray,List.set_cons_zero,List.set_cons_succ,i64_w,i32_w]
  rfl
 refine done_ (done_of HT_.out (by kernel_rfl)) ?_;try go_wp2_with (first|((with_reducible refine gate_callee (f:=17) rfl ?_);refine goesL_ (some 39) rfl rfl Try.func17 (by kernel_rfl) rfl #[.bool true] rfl (by(try simp only[List.map_toArray,List.map_cons,List.map_nil]);first|done|rfl|(simp only[List.length_drop,List.length_take];rfl)) ?_;(with_reducible refine(ebbtidelaw14_Line.calls true t160 t161 t162 _ A8.out).mono ?_);rintro e w34 ⟨v163,rfl,ho0,hb⟩;refine⟨_,rfl,?_⟩;have n0_:=Ya (Ys (by(with_reducible repeat(first|apply Yr|apply Yq|apply Yp));exact Xz.out) hb);have n1_:=Ya (Kd.R_elder' (by(with_reducible repeat(first|apply Yr|apply Yq|apply Yp));exact Wf.out) (Kd.R_base ho0) hb);have n2_:=Ya (Kd.R_elder' (by(with_reducible repeat(first|apply Yr|apply Yq|apply Yp));exact Vb.out) (Kd.R_base ho0) hb);have n3_:=Ya (Ys (by(with_reducible repeat(first|apply Yr|apply Yq|apply Yp));exact Vf.out) hb);have n4_:=Ya (Kd.R_elder' (by(with_reducible repeat(first|apply Yr|apply Yq|apply Yp));exact Js.out) (Kd.R_base ho0) hb);have n5_:=Ya (Kd.R_lower (Kd.R_new' (Kd.R_new' (Kd.R_new' ho0 (Kd.R_lt (by(with_reducible repeat(first|apply Yr|apply Yq|apply Yp));exact Wf.out))) (Kd.R_lt (by(with_reducible repeat(first|apply Yr|apply Yq|apply Yp));exact Vb.out))) (Kd.R_lt (by(with_reducible repeat(first|apply Yr|apply Yq|apply Yp));exact Js.out))) (Yi (by repeat(first|(with_reducible first|exact HB.out|apply Ye|apply Yd|apply Yg)|exact HB.out))));have n6_:=Ya (Yt (by repeat(first|(with_reducible exact Vx.out)|(with_reducible refine Kd.C_alloc ?_ _)|(with_reducible refine Kd.C_drewN ?_ _)|(with_reducible refine Kd.C_drew ?_)|exact Vx.out)) hb);have n7_:=Ya (Yk (by repeat(first|(with_reducible first|exact HB.out|apply Ye|apply Yd|apply Yg)|exact HB.out)) hb);clear Xz;clear Wf;clear Vb;clear Vf;clear Js;clear Vx;clear HB;have Xz:=n0_;have Wf:=n1_;have Vb:=n2_;have Vf:=n3_;have Js:=n4_;have HO164:=n5_;have Vx:=n6_;have HB:=n7_;clear n0_ n1_ n2_ n3_ n4_ n5_ n6_ n7_;(try clear hb);(try clear hb2);(try clear hk);(try clear hi);(try clear ho0))|((with_reducible refine gate_dst (N:=40) rfl ?_);refine Kd.R_lit (Kd.int .i64) _ 3 ?hg (N:=40) ?hd (xs:=([0,3,9]:List Int)) (inner:=[.int .i64 0, .int .i64 3, .int .i64 9]) (ok:=fun _=>True) (okp:=fun _=>True) ?hr ?hp (fun _ hk=>hk) trivial (Yo _ _) (Nat.le_refl _) (by simp) ?_;(case hd=>rfl);(case hg=>rfl);(case hr=>first|(go_simp;done)|(go_simp;rfl));(case hp=>exact(Reps.one (show Kd.M (Kd.int .i64) _ _ _ 0 [.int .i64 0] from rfl) (Reps.one (show Kd.M (Kd.int .i64) _ _ _ 3 [.int .i64 3] from rfl) (Reps.one (show Kd.M (Kd.int .i64) _ _ _ 9 [.int .i64 9] from rfl) (Reps.none _ _)))));intro v166 w35 ho36 hb hg_ hnew_;clear hg_ hnew_;(first|rw[← Ny165.out] at ho36|(simp only[Int.reduceToNat] at ho36;rw[← Ny165.out] at ho36));have n0_:=Ya (Ys (by(with_reducible repeat(first|apply Yr|apply Yq|apply Yp));exact Xz.out) hb);have n1_:=Ya (Ys (by(with_reducible repeat(first|apply Yr|apply Yq|apply Yp));exact Wf.out) hb);have n2_:=Ya (Ys (by(with_reducible repeat(first|apply Yr|apply Yq|apply Yp));exact Vb.out) hb);have n3_:=Ya (Ys (by(with_reducible repeat(first|apply Yr|apply Yq|apply Yp));exact Vf.out) hb);have n4_:=Ya (Ys (by(with_reducible repeat(first|apply Yr|apply Yq|apply Yp));exact Js.out) hb);have n5_:=Ya (Ys (by(with_reducible repeat(first|apply Yr|apply Yq|apply Yp));exact HO164.out) hb);have n6_:=Ya (Kd.R_lower ho36 (Yi (by repeat(first|(with_reducible first|exact HB.out|apply Ye|apply Yd|apply Yg)|exact HB.out))));have n7_:=Ya (Yt (by repeat(first|(with_reducible exact Vx.out)|(with_reducible refine Kd.C_alloc ?_ _)|(with_reducible refine Kd.C_drewN ?_ _)|(with_reducible refine Kd.C_drew ?_)|exact Vx.out)) hb);have n8_:=Ya (Yk (by repeat(first|(with_reducible first|exact HB.out|apply Ye|apply Yd|apply Yg)|exact HB.out)) hb);clear Xz;clear Wf;clear Vb;clear Vf;clear Js;clear HO164;clear Vx;clear HB;have Xz:=n0_;have Wf:=n1_;have Vb:=n2_;have Vf:=n3_;have Js:=n4_;have HO164:=n5_;have HO167:=n6_;have Vx:=n7_;have HB:=n8_;clear n0_ n1_ n2_ n3_ n4_ n5_ n6_ n7_ n8_;clear hb ho36;obtain⟨Ao37,co37,eo37⟩:=Kd.R_slice HO164.out;subst eo37;obtain⟨Ao38,co38,eo38⟩:=Kd.R_slice HO167.out;subst eo38)|((with_reducible refine gate_callee (f:=18) rfl ?_);refine goesL_ (some 41) rfl rfl Try.func18 (by kernel_rfl) rfl #[.agg #[.int .i64 t160, .bool t161, .slice Ao37 t162.length co37], .int .i64 2, .slice Ao38 y165.length co38] rfl (by(try simp only[List.map_toArray,List.map_cons,List.map_nil]);first|done|rfl|(simp only[List.length_drop,List.length_take];rfl)) ?_;(with_reducible refine(timecut_From.calls k t160 t161 _ _ t162 2 _ _ y165 t168 t171 _ ?side1 ?side2 ?side3 ?side4 A9.out).mono ?_);(case side1=>repeat(first|exact(Kd.R_reads' HO164.out).2.2|(with_reducible refine Kd.C_alloc ?_ _)|(with_reducible refine Kd.C_drewN ?_ _)|(with_reducible refine Kd.C_drew ?_)));(case side2=>exact(Kd.R_reads' HO164.out).2.1);(case side3=>repeat(first|exact(Kd.R_reads' HO167.out).2.2|(with_reducible refine Kd.C_alloc ?_ _)|(with_reducible refine Kd.C_drewN ?_ _)|(with_reducible refine Kd.C_drew ?_)));(case side4=>exact(Kd.R_reads' HO167.out).2.1);rintro e w39 ⟨v169,rfl,ho0,hb⟩;refine⟨_,rfl,?_⟩;have n0_:=Ya (Kd.R_elder' (by(with_reducible repeat(first|apply Yr|apply Yq|apply Yp));exact Xz.out) (Kd.R_base ho0) hb);have n1_:=Ya (Ys (by(with_reducible repeat(first|apply Yr|apply Yq|apply Yp));exact Wf.out) hb);have n2_:=Ya (Ys (by(with_reducible repeat(first|apply Yr|apply Yq|apply Yp));exact Vb.out) hb);have n3_:=Ya (Kd.R_elder' (by(with_reducible repeat(first|apply Yr|apply Yq|apply Yp));exact Vf.out) (Kd.R_base ho0) hb);have n4_:=Ya (Ys (by(with_reducible repeat(first|apply Yr|apply Yq|apply Yp));exact Js.out) hb);have n5_:=Ya (Ys (by(with_reducible repeat(first|apply Yr|apply Yq|apply Yp));exact HO164.out) hb);have n6_:=Ya (Ys (by(with_reducible repeat(first|apply Yr|apply Yq|apply Yp));exact HO167.out) hb);have n7_:=Ya (Kd.R_lower (Kd.R_new' (Kd.R_new' ho0 (Kd.R_lt (by(with_reducible repeat(first|apply Yr|apply Yq|apply Yp));exact Xz.out))) (Kd.R_lt (by(with_reducible repeat(first|apply Yr|apply Yq|apply Yp));exact Vf.out))) (Yi (by repeat(first|(with_reducible first|exact HB.out|apply Ye|apply Yd|apply Yg)|exact HB.out))));have n8_:=Ya (Yt (by repeat(first|(with_reducible exact Vx.out)|(with_reducible refine Kd.C_alloc ?_ _)|(with_reducible refine Kd.C_drewN ?_ _)|(with_reducible refine Kd.C_drew ?_)|exact Vx.out)) hb);have n9_:=Ya (Yk (by repeat(first|(with_reducible first|exact HB.out|apply Ye|apply Yd|apply Yg)|exact HB.out)) hb);clear Xz;clear Wf;clear Vb;clear Vf;clear Js;clear HO164;clear HO167;clear Vx;clear HB;have Xz:=n0_;have Wf:=n1_;have Vb:=n2_;have Vf:=n3_;have Js:=n4_;have HO164:=n5_;have HO167:=n6_;have HO170:=n7_;have Vx:=n8_;have HB:=n9_;clear n0_ n1_ n2_ n3_ n4_ n5_ n6_ n7_ n8_ n9_;(try clear hb);(try clear hb2);(try clear hk);(try clear hi);(try clear ho0);obtain⟨Ao40,co40,eo40⟩:=Kd.R_slice HO170.out;subst eo40)|(go_at_call 19;(with_reducible refine(ebbtideref03_SameSlots.calls k _ _ t168 _ _ y129 t172 _ ?side1 ?side2 ?side3 ?side4 A16.out).mono ?_);(case side1=>repeat(first|exact(Kd.R_reads' HO170.out).2.2|(with_reducible refine Kd.C_alloc ?_ _)|(with_reducible refine Kd.C_drewN ?_ _)|(with_reducible refine Kd.C_drew ?_)));(case side2=>exact(Kd.R_reads' HO170.out).2.1);(case side3=>repeat(first|exact(Kd.R_reads' Xz.out).2.2|(with_reducible refine Kd.C_alloc ?_ _)|(with_reducible refine Kd.C_drewN ?_ _)|(with_reducible refine Kd.C_drew ?_)));(case side4=>exact(Kd.R_reads' Xz.out).2.1);rintro e w' ⟨rfl,⟨nd,rfl⟩⟩))
 go_ret;exact⟨by first|rfl|(simp[errW_none,errW_some]<;>rfl)|(simp[*,errW_none,errW_some]<;>rfl),by repeat(first|(with_reducible first|exact HB.out|apply Ye|apply Yd|apply Yg)|exact HB.out)⟩
end P
namespace P
open Go 
theorem bl {n:Nat} {w w':World} (h:Below n w w':=by repeat(first|(with_reducible first|exact HB.out|apply Ye|apply Yd|apply Yg|refine Yh ?_ (Aside0.out (by assumption)))|exact HB.out)):Below n w w':=h
theorem sz {w w':World} {g:Nat} (hg:g=w'.heap.size) (h:Below w.heap.size w w':=by repeat(first|(with_reducible first|exact HB.out|apply Ye|apply Yd|apply Yg|refine Yh ?_ (Aside0.out (by assumption)))|exact HB.out)):w.heap.size≤g:=by rw[hg];exact Yi h
theorem od {p:Prop} [Decidable p] (h:decide p=true:=by first|(with_reducible assumption)|assumption):p:=Yu h
theorem kR {α:Type} {d:Kd α} {e b:Nat} {ok:Nat→Prop} {v:Value} {xs:List α} {w w':World} (B:Aside0 (Kd.R d e w b ok v xs)) (h:Kd.R d e w b ok v xs→Kd.R d e w' b ok v xs:=by intro h_;(with_reducible repeat(first|apply Yr|apply Yq|apply Yp));exact h_):Kd.R d e w' b ok v xs:=h B.out
theorem hc {w w':World} {p:Addr} {v:Value} (B:Aside0 (Below w.heap.size w w')) (h:w.cell? p=some v):w'.cell? p=some v:=(B.out.cell (Yb w _ h)).trans h
theorem kC {α:Type} {d:Kd α} {A:Option Addr} {n:Nat} {xs:List α} {w w':World} (B:Kd.C d w A n xs) (h:Kd.C d w A n xs→Kd.C d w' A n xs:=by intro h_;(with_reducible repeat(first|exact h_|refine Kd.C_alloc ?_ _|refine Kd.C_drewN ?_ _|refine Kd.C_drew ?_))):Kd.C d w' A n xs:=h B
section
variable {P:Program} {ops:Array Oper} {o:Oper} {rest:List Oper} {a:Act} {Q:Exit→Act→World→Prop} {K:Act→World→Prop}
theorem gl {w : World} (N : Option Tmp) {f : FuncId} {fn : Func} {ars : Array Operand} {ts : Array TypeId} (hf : P.funcs[f]? = some fn) (args : Array Value) (h : Calls P f args w fun e w' => ∃ v, e = .returned v ∧ wpList P ops Q rest (a.put N v) w') (hd : o.dst = N := by rfl) (hg : o.guard = none := by rfl) (hname : (fn.name == "runtime.NumGoroutine") = false := by kernel_rfl) (hb : fn.body.isSome = true := by rfl)
  (hop:o.op= .call { callee:= .value (.func f),args:=ars,argTypes:=ts } :=by rfl) (hargs:ars.map a.eval=args:=by(try simp only[List.map_toArray,List.map_cons,List.map_nil]);first|done|rfl|(simp only[List.length_drop,List.length_take];rfl)):wpList P ops Q (o::rest) a w:=goesL_ N hd hg hf hname hb args hop hargs h
theorem gs {w : World} {N : Option Tmp} {f : FuncId} {fn : Func} {ars : Array Operand} {ts : Array TypeId} (hf : P.funcs[f]? = some fn) (args : Array Value) (h : Calls P f args w fun e w' => ∃ v, e = .returned v ∧ K (a.put N v) w') (hname : (fn.name == "runtime.NumGoroutine") = false := by kernel_rfl) (hb : fn.body.isSome = true := by rfl) (hw : Region.wanted o (yielded ops a.tmps) = true := by rfl) (hN : o.dst = N := by rfl)
  (hop:o.op= .call { callee:= .value (.func f),args:=ars,argTypes:=ts } :=by rfl) (hargs:ars.map a.eval=args:=by(try simp only[List.map_toArray,List.map_cons,List.map_nil]);first|done|rfl|(simp only[List.length_drop,List.length_take];rfl)):if Region.wanted o (yielded ops a.tmps)=true then Oper.wp P o a w K Q else K (a.put N undef) w:=goes_ hf hname hb args hw hN hop hargs h
end
def bm (n k:Nat):Array Bool:=((List.range n).map fun i=>k.testBit i).toArray
section
variable {P:Program} {md:Region.Mode} {ops:Array Oper} {Q:Exit→Act→World→Prop} {S:World→Prop} {ds:List Nat} {oi:Oper} {v:Value} {fuel:Nat} {l:Array Bool} {a a':Act} {w:World}
theorem pu (i N:Nat) (l':Array Bool) (h:wpAnyLast P md ops Q S ds fuel l' a' w) (hi:ops[i]? =some oi:=by rfl) (hN:oi.dst=some N:=by rfl) (hc:anyB md ops l l' i=true:=by exact any_of HT_.out (by kernel_rfl)) (hQ: ∀ c a w,Q (.panic c) (a.put oi.dst v) w→Q (.panic c) a w:=by exact fun _ _ _ h=>h) (hy:Yields P ops oi v a:=by refine Or.inl ⟨by rfl,?_⟩;intro w';go_simp;with_reducible rfl) (ha:a.put (some N) v=a':=by simp only[Act.put,List.setIfInBounds_toArray,List.set_cons_zero,List.set_cons_succ,i64_w,i32_w];rfl):wpAnyLast P md ops Q S ds (fuel+1) l a w:=pure_ l' hi hN hc hQ hy ha h
theorem ta (i N:Nat) (l':Array Bool) (hS:S w) (h:wpAnyLast P md ops Q S ds fuel l' a' w) (hi:ops[i]? =some oi:=by rfl) (hN:oi.dst=some N:=by rfl) (hc:takeB md ops ds l l' i=true:=by exact take_ofW HT_.out HW_.out (by kernel_rfl)) (hQ: ∀ c a w,Q (.panic c) (a.put oi.dst v) w→Q (.panic c) a w:=by exact fun _ _ _ h=>h) (hy:YieldsIf P ops S oi v a:=by refine Or.inl ⟨by rfl,?_⟩;intro w' hs_;(try dsimp only at hs_);go_split_ands;go_simp;with_reducible rfl) (ha:a.put (some N) v=a':=by simp only[Act.put,List.setIfInBounds_toArray,List.set_cons_zero,List.set_cons_succ,i64_w,i32_w];rfl):wpAnyLast P md ops Q S ds (fuel+1) l a w:=take_ l' hi hN hc hQ hy hS ha h
theorem on (i:Nat) (N:Option Tmp) (l':Array Bool) (h: ∀ K:Act→World→Prop,Shut (∀ a' w',S w'→(S w'→wpAnyLast P md ops Q S ds fuel l' a' w')→K a' w')→if Region.wanted oi (yielded ops a.tmps)=true then Oper.wp P oi a w K Q else K (a.put N undef) w)
  (hi:ops[i]? =some oi:=by rfl) (hN:oi.dst=N:=by rfl) (hc:readyB md ops l l' i=true:=by exact one_of HT_.out (by kernel_rfl)) (hd:i ∉ ds:=by decide):wpAnyLast P md ops Q S ds (fuel+1) l a w:=one_ l' hi hN hc hd h
theorem nm (h:wpAnyLast P md ops Q S ds fuel l a' w) (ha:a=a':=by show Act.put _ _ _=_;simp only[Act.put,List.setIfInBounds_toArray,List.set_cons_zero,List.set_cons_succ,i64_w,i32_w];rfl):wpAnyLast P md ops Q S ds fuel l a w:=norm_ ha h
end
end P
namespace P
attribute [local go_sem] max2_int min2_int max_two min_two max_three min_three max_four min_four
def ebbtideref01_Sum.l0:Nat→List Int→Int→Int→Int→Option (Int × Bool)
 |0,_,_,_,_=>none
 |k+1,x0,x4,x5,x6=>if x6<(x0.length:Int) then(if 0≤x6 then(ebbtideref01_Sum.l0 k x0 (wrap64 (x4+((rd x0 x6) / 4294967296))) (wrap64 (x5+(Go.bits .and .i64 (rd x0 x6) 4294967295))) (wrap64 (x6+1))) else(none)) else(if (wrap64 (x4+(x5 / 4294967296)))<(-2147483648) then(some (0,false)) else(if (wrap64 (x4+(x5 / 4294967296)))≥2147483648 then(some (0,false)) else(some (wrap64 ((wrap64 ((wrap64 (x4+(x5 / 4294967296))) * 4294967296))+(Go.bits .and .i64 x5 4294967295)),true))))
def ebbtideref01_Sum.f (k:Nat) (l0:List Int):Option (Int × Bool):=ebbtideref01_Sum.l0 k l0 0 0 0
set_option maxHeartbeats 8000000 in
set_option maxRecDepth 100000 in
theorem ebbtideref01_Sum.calls (k:Nat) (A0:Option Addr) (c0:Nat) (l0:List Int) (r1:Int) (r2:Bool) (w:World) (hr0:Kd.C (Kd.int .i64) w A0 l0.length l0) (hc0:l0.length≤c0) (h:ebbtideref01_Sum.f k l0=some (r1,r2)):
  Calls Try.prog 56 #[.slice A0 l0.length c0] w fun e w'=>e= .returned (.tuple #[.int .i64 r1, .bool r2])∧Drawn0 w w':=by
 have HR0:=Ya hr0;have HC0:=Ya hc0;clear hr0 hc0;have H:(ebbtideref01_Sum.l0 k l0 0 0 0)=some (r1,r2):=h;clear h;have H':=Ya H;clear H;go_enter Try.func56,Try.ntmps56;go_wp2;go_loopg [4,5,6] k (fun kq v4 v5 v6 w'=> ∃ (Xj:Int) (Zh:Int) (x6_1:Int),v4= .int .i64 Xj∧v5= .int .i64 Zh∧v6= .int .i64 x6_1∧Aside0 (ebbtideref01_Sum.l0 kq l0 Xj Zh x6_1=some (r1,r2))∧Aside0 (kq≤k)∧Drawn0 w w')
 case atStart=>exact⟨(0),(0),(0),(by first|rfl|(simp;done)|(simp[*];done)),(by first|rfl|(simp;done)|(simp[*];done)),(by first|rfl|(simp;done)|(simp[*];done)),H',⟨Nat.le_refl _⟩,by repeat(first|exact Drawn0.refl _|apply Drawn0.step)⟩
 case round=>
  clear H';obtain⟨Xj,Zh,x6_1,rfl,rfl,rfl,HA,HK1,⟨m1,rfl⟩⟩:=hrel;cases gk with
  |zero=>exact absurd HA.out (by simp[ebbtideref01_Sum.l0])
  |succ k1=>
   have H:=HA.out;clear HA;simp only[ebbtideref01_Sum.l0] at H;by_cases c2:x6_1<(l0.length:Int)
   ·rw[Yx c2] at H
    have c2b0:decide (x6_1<(l0.length:Int))=true:=Yv c2;clear c2;by_cases c3:0≤x6_1
    rotate_left
    ·rw[Yy c3] at H
     exact absurd H (by simp)
    rw[Yx c3] at H;have c3b0:decide (0≤x6_1)=true:=Yv c3;clear c3;have H':=Ya H;clear H;have p211:0≤(x6_1:Int):=Yu (by first|(with_reducible assumption)|assumption);have q211:x6_1<(l0.length:Int):=Yu (by first|(with_reducible assumption)|assumption);obtain⟨ad211,e211,hx211_0⟩:=Kd.at_int HR0.out x6_1 p211 q211;cases e211;replace p211:=eq_true p211;replace q211:=eq_true q211;have p212:0≤(x6_1:Int):=Yu (by first|(with_reducible assumption)|assumption);have q212:x6_1<(l0.length:Int):=Yu (by first|(with_reducible assumption)|assumption);obtain⟨ad212,e212,hx212_0⟩:=Kd.at_int HR0.out x6_1 p212 q212;obtain rfl:ad211=ad212:=(by injection e212);replace p212:=eq_true p212;replace q212:=eq_true q212;go_wp2;go_roundg k1
    case measure=>have:=HK1.out;omega
    case rel=>exact⟨(wrap64 (Xj+((rd l0 x6_1) / 4294967296))),(wrap64 (Zh+(Go.bits .and .i64 (rd l0 x6_1) 4294967295))),(wrap64 (x6_1+1)),(by first|rfl|(simp;done)|(simp[*];done)),(by first|rfl|(simp;done)|(simp[*];done)),(by first|rfl|(simp;done)|(simp[*];done)),H',⟨by have:=HK1.out;omega⟩,by repeat(first|exact Drawn0.refl _|apply Drawn0.step)⟩
   rw[Yy c2] at H;have c2b0:decide (x6_1<(l0.length:Int))=false:=Yw c2;clear c2;by_cases c4:(wrap64 (Xj+(Zh / 4294967296)))<(-2147483648)
   ·rw[Yx c4] at H
    have c4b0:decide ((wrap64 (Xj+(Zh / 4294967296)))<(-2147483648))=true:=Yv c4;clear c4;simp only[Option.some.injEq,Prod.mk.injEq] at H;obtain⟨rfl,rfl⟩:=H;go_wp2;go_ret2;exact⟨by first|rfl|(simp;done)|(simp[*];done),by repeat(first|exact Drawn0.refl _|apply Drawn0.step)⟩
   rw[Yy c4] at H;have c4b0:decide ((wrap64 (Xj+(Zh / 4294967296)))<(-2147483648))=false:=Yw c4;clear c4;by_cases c5:(wrap64 (Xj+(Zh / 4294967296)))≥2147483648
   rotate_left
   ·rw[Yy c5] at H
    have c5b0:decide (2147483648≤(wrap64 (Xj+(Zh / 4294967296))))=false:=Yw c5;clear c5;simp only[Option.some.injEq,Prod.mk.injEq] at H;obtain⟨rfl,rfl⟩:=H;go_wp2;go_ret2;exact⟨by first|rfl|(simp;done)|(simp[*];done),by repeat(first|exact Drawn0.refl _|apply Drawn0.step)⟩
   rw[Yx c5] at H;have c5b0:decide (2147483648≤(wrap64 (Xj+(Zh / 4294967296))))=true:=Yv c5;clear c5;simp only[Option.some.injEq,Prod.mk.injEq] at H;obtain⟨rfl,rfl⟩:=H;go_wp2;go_ret2;exact⟨by first|rfl|(simp;done)|(simp[*];done),by repeat(first|exact Drawn0.refl _|apply Drawn0.step)⟩
end P
namespace P
attribute [local go_sem] max2_int min2_int max_two min_two max_three min_three max_four min_four
mutual
def ebbtideref03_Moves.l0:Nat→List (S61)→List (S61)→Int→Option ((List (S61)) × Int)
 |0,_,_,_=>none
 |k+1,x0,x4,x5=>if x5<(x0.length:Int) then(ebbtideref03_Moves.l1 k x0 x4 x5 true 0) else(some (x4,0))
def ebbtideref03_Moves.l1:Nat→List (S61)→List (S61)→Int→Bool→Int→Option ((List (S61)) × Int)
 |0,_,_,_,_,_=>none
 |k+1,x0,x4,x5,x6,x7=>if x7<x5 then(if x6=true then(if 0≤x7 then(if x7<(x0.length:Int) then(if 0≤x5 then(if x5<(x0.length:Int) then(if ((rd_T61 x0 x7).f0)=((rd_T61 x0 x5).f0) then(ebbtideref03_Moves.l1 k x0 x4 x5 (((rd_T61 x0 x7).f1) != ((rd_T61 x0 x5).f1)) (wrap64 (x7+1))) else(ebbtideref03_Moves.l1 k x0 x4 x5 true (wrap64 (x7+1)))) else(none)) else(none)) else(none)) else(none)) else(ebbtideref03_Moves.l1 k x0 x4 x5 false (wrap64 (x7+1)))) else(if x6=true then(ebbtideref03_Moves.l2 k x0 x4 x5 ([]:List Int) x5) else(ebbtideref03_Moves.l0 k x0 x4 (wrap64 (x5+1))))
def ebbtideref03_Moves.l2:Nat→List (S61)→List (S61)→Int→List Int→Int→Option ((List (S61)) × Int)
 |0,_,_,_,_,_=>none
 |k+1,x0,x4,x5,x8,x9=>if x9<(x0.length:Int) then(if 0≤x9 then(if 0≤x5 then(if x5<(x0.length:Int) then(if ((rd_T61 x0 x9).f0)=((rd_T61 x0 x5).f0) then(if ((rd_T61 x0 x9).f1)=((rd_T61 x0 x5).f1) then(if x8.length<17592186044416 then(ebbtideref03_Moves.l2 k x0 x4 x5 (x8 ++ [(rd_T61 x0 x9).f2]) (wrap64 (x9+1))) else(none)) else(ebbtideref03_Moves.l2 k x0 x4 x5 x8 (wrap64 (x9+1)))) else(ebbtideref03_Moves.l2 k x0 x4 x5 x8 (wrap64 (x9+1)))) else(none)) else(none)) else(none)) else((ebbtideref01_Sum.f k x8).bind fun bt225=>(if bt225.2=true then(if bt225.1=0 then(ebbtideref03_Moves.l0 k x0 x4 (wrap64 (x5+1))) else(if 0≤x5 then(if x5<(x0.length:Int) then(if x4.length<5864062014805 then((some (x4 ++ [(⟨(rd_T61 x0 x5).f0,(rd_T61 x0 x5).f1,bt225.1⟩:S61)]:List (S61))).bind fun y229=>(ebbtideref03_Moves.l3 k x0 y229 x5 (wrap64 ((y229.length:Int) - 1)))) else(none)) else(none)) else(none))) else(some (([]:List (S61)),10))))
def ebbtideref03_Moves.l3:Nat→List (S61)→List (S61)→Int→Int→Option ((List (S61)) × Int)
 |0,_,_,_,_=>none
 |k+1,x0,x4,x5,x12=>if x12>0 then(if 0≤x12 then(if x12<(x4.length:Int) then(if 0≤(wrap64 (x12 - 1)) then(if (wrap64 (x12 - 1))<(x4.length:Int) then(if ((rd_T61 x4 x12).f1)<((rd_T61 x4 (wrap64 (x12 - 1))).f1) then(ebbtideref03_Moves.l3 k x0 ((x4.set (x12:Int).toNat (⟨(rd_T61 x4 (wrap64 (x12 - 1))).f0,(rd_T61 x4 (wrap64 (x12 - 1))).f1,(rd_T61 x4 (wrap64 (x12 - 1))).f2⟩:S61)).set ((wrap64 (x12 - 1)):Int).toNat (⟨(rd_T61 x4 x12).f0,(rd_T61 x4 x12).f1,(rd_T61 x4 x12).f2⟩:S61)) x5 (wrap64 (x12 - 1))) else(if ((rd_T61 x4 x12).f1)=((rd_T61 x4 (wrap64 (x12 - 1))).f1) then(if ((rd_T61 x4 x12).f0)<((rd_T61 x4 (wrap64 (x12 - 1))).f0) then(ebbtideref03_Moves.l3 k x0 ((x4.set (x12:Int).toNat (⟨(rd_T61 x4 (wrap64 (x12 - 1))).f0,(rd_T61 x4 (wrap64 (x12 - 1))).f1,(rd_T61 x4 (wrap64 (x12 - 1))).f2⟩:S61)).set ((wrap64 (x12 - 1)):Int).toNat (⟨(rd_T61 x4 x12).f0,(rd_T61 x4 x12).f1,(rd_T61 x4 x12).f2⟩:S61)) x5 (wrap64 (x12 - 1))) else(ebbtideref03_Moves.l0 k x0 x4 (wrap64 (x5+1)))) else(ebbtideref03_Moves.l0 k x0 x4 (wrap64 (x5+1))))) else(none)) else(none)) else(none)) else(none)) else(ebbtideref03_Moves.l0 k x0 x4 (wrap64 (x5+1)))
end
def ebbtideref03_Moves.f (k:Nat) (l0:List (S61)):Option ((List (S61)) × Int):=ebbtideref03_Moves.l0 k l0 ([]:List (S61)) 0
def ebbtideref03_Moves.T9:Bool × List (List Nat × List Nat):=(true,[([],[]),([0],[0]),([1],[1]),([1],[1]),([2,3,1],[1,2,3]),([4,1],[1,4]),([5,1],[1,5]),([1],[1]),([1],[1]),([7,8,1],[1,7,8]),([9,1],[1,9]),([10,1],[1,10]),([6,11,1],[1,6,11]),([12,1,1],[1,12]),([13],[13]),([13],[13]),([14,15,13],[13,14,15]),([16,13],[13,16]),([17,13],[13,17]),([13],[13]),([13],[13]),([19,20,13],[13,19,20]),([21,13],[13,21]),([22,13],[13,22]),([18,23,13],[13,18,23]),([13,24,1],[1,13,24]),([1,25],[1,25]),([26,13,0,1,2,3,4,5,6,7,8,9,10,11,12,13,14,15,16,17,18,19,20,21,22,23,24,25,26],[0,26])])
def ebbtideref03_Moves.B9:List Nat:=[0,1,3,3,15,31,63,3,3,387,899,1923,4095,8191,16383,16383,65535,131071,262143,16383,16383,1589247,3686399,7880703,16777215,33554431,67108863,134217727]
theorem ebbtideref03_Moves.tab9:rtab .any (opsOf Try.f47 9)=ebbtideref03_Moves.T9:=by kernel_rfl
theorem ebbtideref03_Moves.bits9:waitsOk ebbtideref03_Moves.T9.2 ebbtideref03_Moves.B9=true:=by kernel_rfl
def ebbtideref03_Moves.T15:Bool × List (List Nat × List Nat):=(true,[([],[]),([],[]),([0,1],[0,1]),([2],[2]),([3],[3]),([],[]),([],[]),([5,6],[5,6]),([7],[7]),([8],[8]),([4,9],[4,9]),([10],[10]),([11],[11]),([11],[11]),([12,13,11],[11,12,13]),([14,11],[11,14]),([15,11],[11,15]),([11],[11]),([11],[11]),([17,18,11],[11,17,18]),([19,11],[11,19]),([20,11],[11,20]),([16,21,11],[11,16,21]),([11,22],[11,22])])
def ebbtideref03_Moves.B15:List Nat:=[0,0,3,7,15,0,0,96,224,480,1023,2047,4095,4095,16383,32767,65535,4095,4095,397311,921599,1970175,4194303,8388607]
theorem ebbtideref03_Moves.tab15:rtab .any (opsOf Try.f47 15)=ebbtideref03_Moves.T15:=by kernel_rfl
theorem ebbtideref03_Moves.bits15:waitsOk ebbtideref03_Moves.T15.2 ebbtideref03_Moves.B15=true:=by kernel_rfl
def ebbtideref03_Moves.T21:Bool × List (List Nat × List Nat):=(true,[([],[]),([],[]),([],[]),([1,2],[1,2]),([3],[3]),([4],[4]),([],[]),([],[]),([6,7],[6,7]),([8],[8]),([9],[9]),([],[]),([5,10,11],[5,10,11]),([12],[12]),([0,13],[0,13]),([14,14,0,1,2,3,4,5,6,7,8,9,10,11,12,13,14],[0,14])])
def ebbtideref03_Moves.B21:List Nat:=[0,0,0,6,14,30,0,0,192,448,960,0,4094,8190,16383,32767]
theorem ebbtideref03_Moves.tab21:rtab .any (opsOf Try.f47 21)=ebbtideref03_Moves.T21:=by kernel_rfl
theorem ebbtideref03_Moves.bits21:waitsOk ebbtideref03_Moves.T21.2 ebbtideref03_Moves.B21=true:=by kernel_rfl
def ebbtideref03_Moves.T23:Bool × List (List Nat × List Nat):=(true,[([],[]),([0],[0]),([1],[1]),([2],[2]),([2],[2]),([3,4,2],[2,3,4]),([5,2],[2,5]),([6,2],[2,6]),([2],[2]),([2],[2]),([9,2],[2,9]),([8,10,2],[2,8,10]),([11,2],[2,11]),([12,2],[2,12]),([7,13,2],[2,7,13]),([14,2,2],[2,14]),([15],[15]),([15],[15]),([16,17,15],[15,16,17]),([18,15],[15,18]),([19,15],[15,19]),([15],[15]),([15],[15]),([22,15],[15,22]),([21,23,15],[15,21,23]),([24,15],[15,24]),([25,15],[15,25]),([20,26,15],[15,20,26]),([27,15,15],[15,27]),([28],[28]),([28],[28]),([29,30,28],[28,29,30]),([31,28],[28,31]),([32,28],[28,32]),([28],[28]),([28],[28]),([35,28],[28,35]),([34,36,28],[28,34,36]),([37,28],[28,37]),([38,28],[28,38]),([33,39,28],[28,33,39]),([28,40,15],[15,28,40]),([15,41,2],[2,15,41]),([2,42],[2,42])])
def ebbtideref03_Moves.B23:List Nat:=[0,1,3,7,7,31,63,127,7,7,519,1799,3847,7943,16383,32767,65535,65535,262143,524287,1048575,65535,65535,4259839,14745599,31522815,65077247,134217727,268435455,536870911,536870911,2147483647,4294967295,8589934591,536870911,536870911,34896609279,120795955199,258234908671,533112815615,1099511627775,2199023255551,4398046511103,8796093022207]
theorem ebbtideref03_Moves.tab23:rtab .any (opsOf Try.f47 23)=ebbtideref03_Moves.T23:=by kernel_rfl
theorem ebbtideref03_Moves.bits23:waitsOk ebbtideref03_Moves.T23.2 ebbtideref03_Moves.B23=true:=by kernel_rfl
def ebbtideref03_Moves.T25:Bool × List (List Nat × List Nat):=(true,[([],[]),([],[]),([],[]),([],[]),([3],[3]),([],[]),([],[]),([6],[6]),([5,7],[5,7]),([8],[8]),([],[]),([],[]),([10,11],[10,11]),([12],[12]),([0,1,0,1,5,6,7,8,9,13],[0,1]),([14,9,0,1,5,6,7,8,9,13],[9,14]),([2,4,0,1,2,3,4,5,6,7,8,9,10,11,12,13,14,15],[2,4]),([16,13,15,0,1,2,3,4,5,6,7,8,9,10,11,12,13,14,15],[13,16])])
def ebbtideref03_Moves.B25:List Nat:=[0,0,0,0,8,0,0,64,224,480,0,0,3072,7168,16355,32739,65535,131071]
theorem ebbtideref03_Moves.tab25:rtab .any (opsOf Try.f47 25)=ebbtideref03_Moves.T25:=by kernel_rfl
theorem ebbtideref03_Moves.bits25:waitsOk ebbtideref03_Moves.T25.2 ebbtideref03_Moves.B25=true:=by kernel_rfl
set_option maxHeartbeats 8000000 in
set_option maxRecDepth 100000 in
theorem ebbtideref03_Moves.calls (k:Nat) (A0:Option Addr) (c0:Nat) (l0:List (S61)) (r1:List (S61)) (r2:Int) (w:World) (hr0:Kd.C k61 w A0 l0.length l0) (hc0:l0.length≤c0) (h:ebbtideref03_Moves.f k l0=some (r1,r2)):
  Calls Try.prog 47 #[.slice A0 l0.length c0] w fun e w'=> ∃ v0_:Value,e= .returned (.tuple #[v0_, .int .i64 r2])∧Kd.R k61 61 w' w.heap.size (fun _=>True) v0_ r1∧Below w.heap.size w w':=by
 have hu61:=Try.underlying61;have HR0:=Ya hr0;have HC0:=Ya hc0;clear hr0 hc0;have HB:=Ya (Yo w.heap.size w);have H:=h;unfold ebbtideref03_Moves.f at H;clear h;have H':=Ya H;clear H;go_enter Try.func47,Try.ntmps47;go_wp2;go_loopg [4,5] k (fun kq v4 v5 w'=> ∃ (Xj:List (S61)) (Zh:Int),v5= .int .i64 Zh∧Aside0 (ebbtideref03_Moves.l0 kq l0 Xj Zh=some (r1,r2))∧Aside0 (kq≤k)∧Aside0 (Kd.R k61 61 w' w.heap.size (fun _=>True) v4 Xj)∧Aside0 (Below w.heap.size w w'))
 case atStart=>exact⟨(([]:List (S61))),(0),(by first|rfl|(simp;done)|(simp[*];done)),H',⟨Nat.le_refl _⟩,⟨by first|exact Kd.R_nil _ _ _ _ _|exact Kd.N_nil _ _ _ _ _|exact Kd.V_nil _ _ _ _ _|exact Kd.Q_nil _ _ _ _ _|exact Kd.S_nil _ _ _ _ _⟩,⟨HB.out⟩⟩
 case round=>
  clear H';obtain⟨Xj,Zh,rfl,HA,HK1,HO_4,HB⟩:=hrel;cases gk with
  |zero=>exact absurd HA.out (by simp[ebbtideref03_Moves.l0])
  |succ k1=>
   have H:=HA.out;clear HA;simp only[ebbtideref03_Moves.l0] at H;by_cases c2:Zh<(l0.length:Int)
   rotate_left
   ·rw[Yy c2] at H
    have c2b0:decide (Zh<(l0.length:Int))=false:=Yw c2;clear c2;simp only[Option.some.injEq,Prod.mk.injEq] at H;obtain⟨rfl,rfl⟩:=H;go_wp2;go_ret2;exact⟨_,by first|rfl|(simp[errW_none,errW_some]<;>rfl)|(simp[*,errW_none,errW_some]<;>rfl),by(with_reducible repeat(first|apply Yr|apply Yq|apply Yp));exact HO_4.out,HB.out⟩
   as_aux_lemma=>
   rw[Yx c2] at H;have c2b0:decide (Zh<(l0.length:Int))=true:=Yv c2;clear c2;have H':=Ya H;clear H;go_wp2;go_loopg [6,7] k1 (fun kq v6 v7 w'=> ∃ (x6_2:Bool) (Wk:Int),v6= .bool x6_2∧v7= .int .i64 Wk∧Aside0 (ebbtideref03_Moves.l1 kq l0 Xj Zh x6_2 Wk=some (r1,r2))∧Aside0 (kq≤k1)∧Aside0 (Kd.R k61 61 w' w.heap.size (fun _=>True) u4 Xj)∧Aside0 (Below w.heap.size w w'))
   case atStart=>exact⟨(true),(0),(by first|rfl|(simp;done)|(simp[*];done)),(by first|rfl|(simp;done)|(simp[*];done)),H',⟨Nat.le_refl _⟩,⟨HO_4.out⟩,⟨HB.out⟩⟩
   case round=>
    clear H';try clear c2
    try clear c2b0
    obtain⟨x6_2,Wk,rfl,rfl,HA,HK2,HO_4,HB⟩:=hrel;cases gk with
    |zero=>exact absurd HA.out (by simp[ebbtideref03_Moves.l1])
    |succ k2=>
     have H:=HA.out;clear HA;simp only[ebbtideref03_Moves.l1] at H;by_cases c3:Wk<Zh
     ·as_aux_lemma=>
      rw[Yx c3] at H;have c3b0:decide (Wk<Zh)=true:=Yv c3;clear c3;by_cases c4:x6_2=true
      rotate_left
      ·replace c4:=Bool.eq_false_iff.mpr c4
       subst c4;rw[Yy (show ¬ (false=true) by decide)] at H;have H':=Ya H;clear H;try go_wp2
       replace HO_4:=Ya (Yp HO_4.out);replace HB:=Ya (Yg HB.out);refine start_ (n:=28) (S:=fun w'=>True) (ds:=[]) #[false,false,false,false,false,false,false,false,false,false,false,false,false,false,false,false,false,false,false,false,false,false,false,false,false,false,false,false] (by kernel_rfl) rfl rfl trivial (fun hHeld=> ?_);refine with_tabW ebbtideref03_Moves.tab9 ebbtideref03_Moves.bits9 (fun HT_ HW_=> ?_);generalize wr.drew=w12 at HO_4 HB hHeld ⊢;refine pu 0 24 (bm 28 1) ?_;refine pu 1 25 (bm 28 3) ?_;refine pure_ (i:=2) (N:=some 26) (v:=undef) (a':= ?_) #[true,true,true,false,false,false,false,false,false,false,false,false,false,false,false,false,false,false,false,false,false,false,false,false,false,false,false,false] rfl rfl (any_of HT_.out (by kernel_rfl)) (fun _ _ _ h=>h) (Or.inr ⟨by rfl,rfl⟩) ?_ ?_
       rotate_left
       ·simp only[Act.put,List.setIfInBounds_toArray,List.set_cons_zero,List.set_cons_succ,i64_w,i32_w]
        rfl
       refine pure_ (i:=3) (N:=some 27) (v:=undef) (a':= ?_) #[true,true,true,true,false,false,false,false,false,false,false,false,false,false,false,false,false,false,false,false,false,false,false,false,false,false,false,false] rfl rfl (any_of HT_.out (by kernel_rfl)) (fun _ _ _ h=>h) (Or.inr ⟨by rfl,rfl⟩) ?_ ?_
       rotate_left
       ·simp only[Act.put,List.setIfInBounds_toArray,List.set_cons_zero,List.set_cons_succ,i64_w,i32_w]
        rfl
       refine pure_ (i:=4) (N:=some 28) (v:=undef) (a':= ?_) #[true,true,true,true,true,false,false,false,false,false,false,false,false,false,false,false,false,false,false,false,false,false,false,false,false,false,false,false] rfl rfl (any_of HT_.out (by kernel_rfl)) (fun _ _ _ h=>h) (Or.inr ⟨by rfl,rfl⟩) ?_ ?_
       rotate_left
       ·simp only[Act.put,List.setIfInBounds_toArray,List.set_cons_zero,List.set_cons_succ,i64_w,i32_w]
        rfl
       refine pure_ (i:=5) (N:=some 29) (v:=undef) (a':= ?_) #[true,true,true,true,true,true,false,false,false,false,false,false,false,false,false,false,false,false,false,false,false,false,false,false,false,false,false,false] rfl rfl (any_of HT_.out (by kernel_rfl)) (fun _ _ _ h=>h) (Or.inr ⟨by rfl,rfl⟩) ?_ ?_
       rotate_left
       ·simp only[Act.put,List.setIfInBounds_toArray,List.set_cons_zero,List.set_cons_succ,i64_w,i32_w]
        rfl
       refine pure_ (i:=6) (N:=some 30) (v:=undef) (a':= ?_) #[true,true,true,true,true,true,true,false,false,false,false,false,false,false,false,false,false,false,false,false,false,false,false,false,false,false,false,false] rfl rfl (any_of HT_.out (by kernel_rfl)) (fun _ _ _ h=>h) (Or.inr ⟨by rfl,rfl⟩) ?_ ?_
       rotate_left
       ·simp only[Act.put,List.setIfInBounds_toArray,List.set_cons_zero,List.set_cons_succ,i64_w,i32_w]
        rfl
       refine pure_ (i:=7) (N:=some 31) (v:=undef) (a':= ?_) #[true,true,true,true,true,true,true,true,false,false,false,false,false,false,false,false,false,false,false,false,false,false,false,false,false,false,false,false] rfl rfl (any_of HT_.out (by kernel_rfl)) (fun _ _ _ h=>h) (Or.inr ⟨by rfl,rfl⟩) ?_ ?_
       rotate_left
       ·simp only[Act.put,List.setIfInBounds_toArray,List.set_cons_zero,List.set_cons_succ,i64_w,i32_w]
        rfl
       refine pure_ (i:=8) (N:=some 32) (v:=undef) (a':= ?_) #[true,true,true,true,true,true,true,true,true,false,false,false,false,false,false,false,false,false,false,false,false,false,false,false,false,false,false,false] rfl rfl (any_of HT_.out (by kernel_rfl)) (fun _ _ _ h=>h) (Or.inr ⟨by rfl,rfl⟩) ?_ ?_
       rotate_left
       ·simp only[Act.put,List.setIfInBounds_toArray,List.set_cons_zero,List.set_cons_succ,i64_w,i32_w]
        rfl
       refine pure_ (i:=9) (N:=some 33) (v:=undef) (a':= ?_) #[true,true,true,true,true,true,true,true,true,true,false,false,false,false,false,false,false,false,false,false,false,false,false,false,false,false,false,false] rfl rfl (any_of HT_.out (by kernel_rfl)) (fun _ _ _ h=>h) (Or.inr ⟨by rfl,rfl⟩) ?_ ?_
       rotate_left
       ·simp only[Act.put,List.setIfInBounds_toArray,List.set_cons_zero,List.set_cons_succ,i64_w,i32_w]
        rfl
       refine pure_ (i:=10) (N:=some 34) (v:=undef) (a':= ?_) #[true,true,true,true,true,true,true,true,true,true,true,false,false,false,false,false,false,false,false,false,false,false,false,false,false,false,false,false] rfl rfl (any_of HT_.out (by kernel_rfl)) (fun _ _ _ h=>h) (Or.inr ⟨by rfl,rfl⟩) ?_ ?_
       rotate_left
       ·simp only[Act.put,List.setIfInBounds_toArray,List.set_cons_zero,List.set_cons_succ,i64_w,i32_w]
        rfl
       refine pure_ (i:=11) (N:=some 35) (v:=undef) (a':= ?_) #[true,true,true,true,true,true,true,true,true,true,true,true,false,false,false,false,false,false,false,false,false,false,false,false,false,false,false,false] rfl rfl (any_of HT_.out (by kernel_rfl)) (fun _ _ _ h=>h) (Or.inr ⟨by rfl,rfl⟩) ?_ ?_
       rotate_left
       ·simp only[Act.put,List.setIfInBounds_toArray,List.set_cons_zero,List.set_cons_succ,i64_w,i32_w]
        rfl
       refine pure_ (i:=12) (N:=some 36) (v:=undef) (a':= ?_) #[true,true,true,true,true,true,true,true,true,true,true,true,true,false,false,false,false,false,false,false,false,false,false,false,false,false,false,false] rfl rfl (any_of HT_.out (by kernel_rfl)) (fun _ _ _ h=>h) (Or.inr ⟨by rfl,rfl⟩) ?_ ?_
       rotate_left
       ·simp only[Act.put,List.setIfInBounds_toArray,List.set_cons_zero,List.set_cons_succ,i64_w,i32_w]
        rfl
       refine pure_ (i:=13) (N:=some 37) (v:=undef) (a':= ?_) #[true,true,true,true,true,true,true,true,true,true,true,true,true,true,false,false,false,false,false,false,false,false,false,false,false,false,false,false] rfl rfl (any_of HT_.out (by kernel_rfl)) (fun _ _ _ h=>h) (Or.inr ⟨by rfl,rfl⟩) ?_ ?_
       rotate_left
       ·simp only[Act.put,List.setIfInBounds_toArray,List.set_cons_zero,List.set_cons_succ,i64_w,i32_w]
        rfl
       refine pure_ (i:=14) (N:=some 38) (v:=undef) (a':= ?_) #[true,true,true,true,true,true,true,true,true,true,true,true,true,true,true,false,false,false,false,false,false,false,false,false,false,false,false,false] rfl rfl (any_of HT_.out (by kernel_rfl)) (fun _ _ _ h=>h) (Or.inr ⟨by rfl,rfl⟩) ?_ ?_
       rotate_left
       ·simp only[Act.put,List.setIfInBounds_toArray,List.set_cons_zero,List.set_cons_succ,i64_w,i32_w]
        rfl
       refine pure_ (i:=15) (N:=some 39) (v:=undef) (a':= ?_) #[true,true,true,true,true,true,true,true,true,true,true,true,true,true,true,true,false,false,false,false,false,false,false,false,false,false,false,false] rfl rfl (any_of HT_.out (by kernel_rfl)) (fun _ _ _ h=>h) (Or.inr ⟨by rfl,rfl⟩) ?_ ?_
       rotate_left
       ·simp only[Act.put,List.setIfInBounds_toArray,List.set_cons_zero,List.set_cons_succ,i64_w,i32_w]
        rfl
       refine pure_ (i:=16) (N:=some 40) (v:=undef) (a':= ?_) #[true,true,true,true,true,true,true,true,true,true,true,true,true,true,true,true,true,false,false,false,false,false,false,false,false,false,false,false] rfl rfl (any_of HT_.out (by kernel_rfl)) (fun _ _ _ h=>h) (Or.inr ⟨by rfl,rfl⟩) ?_ ?_
       rotate_left
       ·simp only[Act.put,List.setIfInBounds_toArray,List.set_cons_zero,List.set_cons_succ,i64_w,i32_w]
        rfl
       refine pure_ (i:=17) (N:=some 41) (v:=undef) (a':= ?_) #[true,true,true,true,true,true,true,true,true,true,true,true,true,true,true,true,true,true,false,false,false,false,false,false,false,false,false,false] rfl rfl (any_of HT_.out (by kernel_rfl)) (fun _ _ _ h=>h) (Or.inr ⟨by rfl,rfl⟩) ?_ ?_
       rotate_left
       ·simp only[Act.put,List.setIfInBounds_toArray,List.set_cons_zero,List.set_cons_succ,i64_w,i32_w]
        rfl
       refine pure_ (i:=18) (N:=some 42) (v:=undef) (a':= ?_) #[true,true,true,true,true,true,true,true,true,true,true,true,true,true,true,true,true,true,true,false,false,false,false,false,false,false,false,false] rfl rfl (any_of HT_.out (by kernel_rfl)) (fun _ _ _ h=>h) (Or.inr ⟨by rfl,rfl⟩) ?_ ?_
       rotate_left
       ·simp only[Act.put,List.setIfInBounds_toArray,List.set_cons_zero,List.set_cons_succ,i64_w,i32_w]
        rfl
       refine pure_ (i:=19) (N:=some 43) (v:=undef) (a':= ?_) #[true,true,true,true,true,true,true,true,true,true,true,true,true,true,true,true,true,true,true,true,false,false,false,false,false,false,false,false] rfl rfl (any_of HT_.out (by kernel_rfl)) (fun _ _ _ h=>h) (Or.inr ⟨by rfl,rfl⟩) ?_ ?_
       rotate_left
       ·simp only[Act.put,List.setIfInBounds_toArray,List.set_cons_zero,List.set_cons_succ,i64_w,i32_w]
        rfl
       refine pure_ (i:=20) (N:=some 44) (v:=undef) (a':= ?_) #[true,true,true,true,true,true,true,true,true,true,true,true,true,true,true,true,true,true,true,true,true,false,false,false,false,false,false,false] rfl rfl (any_of HT_.out (by kernel_rfl)) (fun _ _ _ h=>h) (Or.inr ⟨by rfl,rfl⟩) ?_ ?_
       rotate_left
       ·simp only[Act.put,List.setIfInBounds_toArray,List.set_cons_zero,List.set_cons_succ,i64_w,i32_w]
        rfl
       refine pure_ (i:=21) (N:=some 45) (v:=undef) (a':= ?_) #[true,true,true,true,true,true,true,true,true,true,true,true,true,true,true,true,true,true,true,true,true,true,false,false,false,false,false,false] rfl rfl (any_of HT_.out (by kernel_rfl)) (fun _ _ _ h=>h) (Or.inr ⟨by rfl,rfl⟩) ?_ ?_
       rotate_left
       ·simp only[Act.put,List.setIfInBounds_toArray,List.set_cons_zero,List.set_cons_succ,i64_w,i32_w]
        rfl
       refine pure_ (i:=22) (N:=some 46) (v:=undef) (a':= ?_) #[true,true,true,true,true,true,true,true,true,true,true,true,true,true,true,true,true,true,true,true,true,true,true,false,false,false,false,false] rfl rfl (any_of HT_.out (by kernel_rfl)) (fun _ _ _ h=>h) (Or.inr ⟨by rfl,rfl⟩) ?_ ?_
       rotate_left
       ·simp only[Act.put,List.setIfInBounds_toArray,List.set_cons_zero,List.set_cons_succ,i64_w,i32_w]
        rfl
       refine pure_ (i:=23) (N:=some 47) (v:=undef) (a':= ?_) #[true,true,true,true,true,true,true,true,true,true,true,true,true,true,true,true,true,true,true,true,true,true,true,true,false,false,false,false] rfl rfl (any_of HT_.out (by kernel_rfl)) (fun _ _ _ h=>h) (Or.inr ⟨by rfl,rfl⟩) ?_ ?_
       rotate_left
       ·simp only[Act.put,List.setIfInBounds_toArray,List.set_cons_zero,List.set_cons_succ,i64_w,i32_w]
        rfl
       refine pure_ (i:=24) (N:=some 48) (v:=undef) (a':= ?_) #[true,true,true,true,true,true,true,true,true,true,true,true,true,true,true,true,true,true,true,true,true,true,true,true,true,false,false,false] rfl rfl (any_of HT_.out (by kernel_rfl)) (fun _ _ _ h=>h) (Or.inr ⟨by rfl,rfl⟩) ?_ ?_
       rotate_left
       ·simp only[Act.put,List.setIfInBounds_toArray,List.set_cons_zero,List.set_cons_succ,i64_w,i32_w]
        rfl
       refine pure_ (i:=25) (N:=some 49) (v:=undef) (a':= ?_) #[true,true,true,true,true,true,true,true,true,true,true,true,true,true,true,true,true,true,true,true,true,true,true,true,true,true,false,false] rfl rfl (any_of HT_.out (by kernel_rfl)) (fun _ _ _ h=>h) (Or.inr ⟨by rfl,rfl⟩) ?_ ?_
       rotate_left
       ·simp only[Act.put,List.setIfInBounds_toArray,List.set_cons_zero,List.set_cons_succ,i64_w,i32_w]
        rfl
       refine pu 26 50 (bm 28 134217727) ?_;refine pu 27 6 (bm 28 268435455) ?_;refine done_ (done_of HT_.out (by kernel_rfl)) ?_;try go_wp2
       go_roundg k2
       case measure=>have:=HK1.out;have:=HK2.out;omega
       case rel=>exact⟨(false),(wrap64 (Wk+1)),(by first|rfl|(simp;done)|(simp[*];done)),(by first|rfl|(simp;done)|(simp[*];done)),H',⟨by have:=HK1.out;have:=HK2.out;omega⟩,⟨HO_4.out⟩,⟨HB.out⟩⟩
      subst c4;first|rw[Yx rfl] at H|rw[Yx trivial] at H
      by_cases c5:0≤Wk
      rotate_left
      ·rw[Yy c5] at H
       exact absurd H (by simp)
      as_aux_lemma=>
      rw[Yx c5] at H;have c5b0:decide (0≤Wk)=true:=Yv c5;clear c5;by_cases c6:Wk<(l0.length:Int)
      rotate_left
      ·rw[Yy c6] at H
       exact absurd H (by simp)
      as_aux_lemma=>
      rw[Yx c6] at H;have c6b0:decide (Wk<(l0.length:Int))=true:=Yv c6;clear c6;by_cases c7:0≤Zh
      rotate_left
      ·rw[Yy c7] at H
       exact absurd H (by simp)
      as_aux_lemma=>
      rw[Yx c7] at H;have c7b0:decide (0≤Zh)=true:=Yv c7;clear c7;by_cases c8:Zh<(l0.length:Int)
      rotate_left
      ·rw[Yy c8] at H
       exact absurd H (by simp)
      as_aux_lemma=>
      rw[Yx c8] at H;have c8b0:decide (Zh<(l0.length:Int))=true:=Yv c8;clear c8;by_cases c9:((rd_T61 l0 Wk).f0)=((rd_T61 l0 Zh).f0)
      ·as_aux_lemma=>
       rw[Yx c9] at H;have c9b0:(((rd_T61 l0 Wk).f0) == ((rd_T61 l0 Zh).f0))=true:=beq_iff_eq.mpr c9;have c9b1:(((rd_T61 l0 Wk).f0) != ((rd_T61 l0 Zh).f0))=false:=bne_eq_false_iff_eq.mpr c9;clear c9;have H':=Ya H;clear H;try go_wp2
       replace HO_4:=Ya (Yp HO_4.out);replace HB:=Ya (Yg HB.out);have p213:0≤(Wk:Int):=od;have q213:Wk<(l0.length:Int):=od;obtain⟨Wj,e213,Jc,Jd,Je⟩:=at_T61 HR0.out Wk p213 q213;have hw213_2:=Je;have hw213_1:=Jd;have hw213_0:=Jc;cases e213;replace Jc:=hc HB Jc;replace Jd:=hc HB Jd;replace Je:=hc HB Je;replace p213:=eq_true p213;replace q213:=eq_true q213;have p214:0≤(Zh:Int):=od;have q214:Zh<(l0.length:Int):=od;obtain⟨ad214,e214,Jf,Jg,Jh⟩:=at_T61 HR0.out Zh p214 q214;have hw214_2:=Jh;have hw214_1:=Jg;have hw214_0:=Jf;obtain rfl:Wj=ad214:=(by injection e214);replace Jf:=hc HB Jf;replace Jg:=hc HB Jg;replace Jh:=hc HB Jh;replace p214:=eq_true p214;replace q214:=eq_true q214;have p215:0≤(Wk:Int):=od;have q215:Wk<(l0.length:Int):=od;obtain⟨ad215,e215,hx215_0,hx215_1,hx215_2⟩:=at_T61 HR0.out Wk p215 q215;have hw215_2:=hx215_2;have hw215_1:=hx215_1;have hw215_0:=hx215_0;obtain rfl:Wj=ad215:=(by injection e215);replace hx215_0:=hc HB hx215_0;replace hx215_1:=hc HB hx215_1;replace hx215_2:=hc HB hx215_2;replace p215:=eq_true p215;replace q215:=eq_true q215;have p216:0≤(Zh:Int):=od;have q216:Zh<(l0.length:Int):=od;obtain⟨ad216,e216,hx216_0,hx216_1,hx216_2⟩:=at_T61 HR0.out Zh p216 q216;have hw216_2:=hx216_2;have hw216_1:=hx216_1;have hw216_0:=hx216_0;obtain rfl:Wj=ad216:=(by injection e216);replace hx216_0:=hc HB hx216_0;replace hx216_1:=hc HB hx216_1;replace hx216_2:=hc HB hx216_2;replace p216:=eq_true p216;replace q216:=eq_true q216;refine start_ (n:=28) (S:=fun w'=>w'.cell? (Wj.add ((Wk).toNat * 3))=some (.int .i64 ((rd_T61 l0 Wk).f0))∧w'.cell? ⟨(Wj.add ((Wk).toNat * 3)).block,(Wj.add ((Wk).toNat * 3)).off+1,none⟩=some (.int .i64 ((rd_T61 l0 Wk).f1))∧w'.cell? ⟨(Wj.add ((Wk).toNat * 3)).block,(Wj.add ((Wk).toNat * 3)).off+2,none⟩=some (.int .i64 ((rd_T61 l0 Wk).f2))∧w'.cell? (Wj.add ((Zh).toNat * 3))=some (.int .i64 ((rd_T61 l0 Zh).f0))∧w'.cell? ⟨(Wj.add ((Zh).toNat * 3)).block,(Wj.add ((Zh).toNat * 3)).off+1,none⟩=some (.int .i64 ((rd_T61 l0 Zh).f1))∧w'.cell? ⟨(Wj.add ((Zh).toNat * 3)).block,(Wj.add ((Zh).toNat * 3)).off+2,none⟩=some (.int .i64 ((rd_T61 l0 Zh).f2))∧w'.cell? (Wj.add ((Wk).toNat * 3))=some (.int .i64 ((rd_T61 l0 Wk).f0))∧w'.cell? ⟨(Wj.add ((Wk).toNat * 3)).block,(Wj.add ((Wk).toNat * 3)).off+1,none⟩=some (.int .i64 ((rd_T61 l0 Wk).f1))∧w'.cell? ⟨(Wj.add ((Wk).toNat * 3)).block,(Wj.add ((Wk).toNat * 3)).off+2,none⟩=some (.int .i64 ((rd_T61 l0 Wk).f2))∧w'.cell? (Wj.add ((Zh).toNat * 3))=some (.int .i64 ((rd_T61 l0 Zh).f0))∧w'.cell? ⟨(Wj.add ((Zh).toNat * 3)).block,(Wj.add ((Zh).toNat * 3)).off+1,none⟩=some (.int .i64 ((rd_T61 l0 Zh).f1))∧w'.cell? ⟨(Wj.add ((Zh).toNat * 3)).block,(Wj.add ((Zh).toNat * 3)).off+2,none⟩=some (.int .i64 ((rd_T61 l0 Zh).f2))) (ds:=[]) #[false,false,false,false,false,false,false,false,false,false,false,false,false,false,false,false,false,false,false,false,false,false,false,false,false,false,false,false] (by kernel_rfl) rfl rfl ⟨((HB.out.cell (Yb w _ hw213_0)).trans hw213_0),((HB.out.cell (Yb w _ hw213_1)).trans hw213_1),((HB.out.cell (Yb w _ hw213_2)).trans hw213_2),((HB.out.cell (Yb w _ hw214_0)).trans hw214_0),((HB.out.cell (Yb w _ hw214_1)).trans hw214_1),((HB.out.cell (Yb w _ hw214_2)).trans hw214_2),((HB.out.cell (Yb w _ hw215_0)).trans hw215_0),((HB.out.cell (Yb w _ hw215_1)).trans hw215_1),((HB.out.cell (Yb w _ hw215_2)).trans hw215_2),((HB.out.cell (Yb w _ hw216_0)).trans hw216_0),((HB.out.cell (Yb w _ hw216_1)).trans hw216_1),((HB.out.cell (Yb w _ hw216_2)).trans hw216_2)⟩ (fun hHeld=> ?_);refine with_tabW ebbtideref03_Moves.tab9 ebbtideref03_Moves.bits9 (fun HT_ HW_=> ?_);generalize wr.drew=w10 at HO_4 HB Jc Jd Je Jf Jg Jh hx215_0 hx215_1 hx215_2 hx216_0 hx216_1 hx216_2 hHeld ⊢;refine pu 0 24 (bm 28 1) ?_;refine pu 1 25 (bm 28 3) ?_;refine pu 2 26 (bm 28 7) ?_;refine pu 3 27 (bm 28 15) ?_;refine pu 4 28 (bm 28 31) ?_;refine pu 5 29 (bm 28 63) ?_;refine pu 7 31 (bm 28 191) ?_;refine pu 8 32 (bm 28 447) ?_;refine pu 9 33 (bm 28 959) ?_;refine pu 10 34 (bm 28 1983) ?_;refine ta 6 30 (bm 28 2047) hHeld ?_;refine ta 11 35 (bm 28 4095) hHeld ?_;refine pu 12 36 (bm 28 8191) ?_;refine pu 13 37 (bm 28 16383) ?_;refine pu 14 38 (bm 28 32767) ?_;refine pu 15 39 (bm 28 65535) ?_;refine pu 16 40 (bm 28 131071) ?_;refine pu 17 41 (bm 28 262143) ?_;refine pu 19 43 (bm 28 786431) ?_;refine pu 20 44 (bm 28 1835007) ?_;refine pu 21 45 (bm 28 3932159) ?_;refine pu 22 46 (bm 28 8126463) ?_;refine ta 18 42 (bm 28 8388607) hHeld ?_;refine ta 23 47 (bm 28 16777215) hHeld ?_;refine pu 24 48 (bm 28 33554431) ?_;refine pu 25 49 (bm 28 67108863) ?_;refine pu 26 50 (bm 28 134217727) ?_;refine pu 27 6 (bm 28 268435455) ?_;refine done_ (done_of HT_.out (by kernel_rfl)) ?_;try go_wp2
       go_roundg k2
       case measure=>have:=HK1.out;have:=HK2.out;omega
       case rel=>exact⟨((((rd_T61 l0 Wk).f1) != ((rd_T61 l0 Zh).f1))),(wrap64 (Wk+1)),(by first|rfl|(simp;done)|(simp[*];done)),(by first|rfl|(simp;done)|(simp[*];done)),H',⟨by have:=HK1.out;have:=HK2.out;omega⟩,⟨HO_4.out⟩,⟨HB.out⟩⟩
      as_aux_lemma=>
      rw[Yy c9] at H;have c9b0:(((rd_T61 l0 Wk).f0) == ((rd_T61 l0 Zh).f0))=false:=beq_eq_false_iff_ne.mpr c9;have c9b1:(((rd_T61 l0 Wk).f0) != ((rd_T61 l0 Zh).f0))=true:=bne_iff_ne.mpr c9;have H':=Ya H;clear H;try go_wp2
      replace HO_4:=Ya (Yp HO_4.out);replace HB:=Ya (Yg HB.out);have p213:0≤(Wk:Int):=od;have q213:Wk<(l0.length:Int):=od;obtain⟨Wj,e213,Jc,Jd,Je⟩:=at_T61 HR0.out Wk p213 q213;have hw213_2:=Je;have hw213_1:=Jd;have hw213_0:=Jc;cases e213;replace Jc:=hc HB Jc;replace Jd:=hc HB Jd;replace Je:=hc HB Je;replace p213:=eq_true p213;replace q213:=eq_true q213;have p214:0≤(Zh:Int):=od;have q214:Zh<(l0.length:Int):=od;obtain⟨ad214,e214,Jf,Jg,Jh⟩:=at_T61 HR0.out Zh p214 q214;have hw214_2:=Jh;have hw214_1:=Jg;have hw214_0:=Jf;obtain rfl:Wj=ad214:=(by injection e214);replace Jf:=hc HB Jf;replace Jg:=hc HB Jg;replace Jh:=hc HB Jh;replace p214:=eq_true p214;replace q214:=eq_true q214;refine start_ (n:=28) (S:=fun w'=>w'.cell? (Wj.add ((Wk).toNat * 3))=some (.int .i64 ((rd_T61 l0 Wk).f0))∧w'.cell? ⟨(Wj.add ((Wk).toNat * 3)).block,(Wj.add ((Wk).toNat * 3)).off+1,none⟩=some (.int .i64 ((rd_T61 l0 Wk).f1))∧w'.cell? ⟨(Wj.add ((Wk).toNat * 3)).block,(Wj.add ((Wk).toNat * 3)).off+2,none⟩=some (.int .i64 ((rd_T61 l0 Wk).f2))∧w'.cell? (Wj.add ((Zh).toNat * 3))=some (.int .i64 ((rd_T61 l0 Zh).f0))∧w'.cell? ⟨(Wj.add ((Zh).toNat * 3)).block,(Wj.add ((Zh).toNat * 3)).off+1,none⟩=some (.int .i64 ((rd_T61 l0 Zh).f1))∧w'.cell? ⟨(Wj.add ((Zh).toNat * 3)).block,(Wj.add ((Zh).toNat * 3)).off+2,none⟩=some (.int .i64 ((rd_T61 l0 Zh).f2))) (ds:=[]) #[false,false,false,false,false,false,false,false,false,false,false,false,false,false,false,false,false,false,false,false,false,false,false,false,false,false,false,false] (by kernel_rfl) rfl rfl ⟨((HB.out.cell (Yb w _ hw213_0)).trans hw213_0),((HB.out.cell (Yb w _ hw213_1)).trans hw213_1),((HB.out.cell (Yb w _ hw213_2)).trans hw213_2),((HB.out.cell (Yb w _ hw214_0)).trans hw214_0),((HB.out.cell (Yb w _ hw214_1)).trans hw214_1),((HB.out.cell (Yb w _ hw214_2)).trans hw214_2)⟩ (fun hHeld=> ?_);refine with_tabW ebbtideref03_Moves.tab9 ebbtideref03_Moves.bits9 (fun HT_ HW_=> ?_);generalize wr.drew=w11 at HO_4 HB Jc Jd Je Jf Jg Jh hHeld ⊢;refine pu 0 24 (bm 28 1) ?_;refine pu 1 25 (bm 28 3) ?_;refine pu 2 26 (bm 28 7) ?_;refine pu 3 27 (bm 28 15) ?_;refine pu 4 28 (bm 28 31) ?_;refine pu 5 29 (bm 28 63) ?_;refine pu 7 31 (bm 28 191) ?_;refine pu 8 32 (bm 28 447) ?_;refine pu 9 33 (bm 28 959) ?_;refine pu 10 34 (bm 28 1983) ?_;refine ta 6 30 (bm 28 2047) hHeld ?_;refine ta 11 35 (bm 28 4095) hHeld ?_;refine pu 12 36 (bm 28 8191) ?_;refine pu 13 37 (bm 28 16383) ?_;refine pure_ (i:=14) (N:=some 38) (v:=undef) (a':= ?_) #[true,true,true,true,true,true,true,true,true,true,true,true,true,true,true,false,false,false,false,false,false,false,false,false,false,false,false,false] rfl rfl (any_of HT_.out (by kernel_rfl)) (fun _ _ _ h=>h) (Or.inr ⟨by rfl,rfl⟩) ?_ ?_
      rotate_left
      ·simp only[Act.put,List.setIfInBounds_toArray,List.set_cons_zero,List.set_cons_succ,i64_w,i32_w]
       rfl
      refine pure_ (i:=15) (N:=some 39) (v:=undef) (a':= ?_) #[true,true,true,true,true,true,true,true,true,true,true,true,true,true,true,true,false,false,false,false,false,false,false,false,false,false,false,false] rfl rfl (any_of HT_.out (by kernel_rfl)) (fun _ _ _ h=>h) (Or.inr ⟨by rfl,rfl⟩) ?_ ?_
      rotate_left
      ·simp only[Act.put,List.setIfInBounds_toArray,List.set_cons_zero,List.set_cons_succ,i64_w,i32_w]
       rfl
      refine pure_ (i:=16) (N:=some 40) (v:=undef) (a':= ?_) #[true,true,true,true,true,true,true,true,true,true,true,true,true,true,true,true,true,false,false,false,false,false,false,false,false,false,false,false] rfl rfl (any_of HT_.out (by kernel_rfl)) (fun _ _ _ h=>h) (Or.inr ⟨by rfl,rfl⟩) ?_ ?_
      rotate_left
      ·simp only[Act.put,List.setIfInBounds_toArray,List.set_cons_zero,List.set_cons_succ,i64_w,i32_w]
       rfl
      refine pure_ (i:=17) (N:=some 41) (v:=undef) (a':= ?_) #[true,true,true,true,true,true,true,true,true,true,true,true,true,true,true,true,true,true,false,false,false,false,false,false,false,false,false,false] rfl rfl (any_of HT_.out (by kernel_rfl)) (fun _ _ _ h=>h) (Or.inr ⟨by rfl,rfl⟩) ?_ ?_
      rotate_left
      ·simp only[Act.put,List.setIfInBounds_toArray,List.set_cons_zero,List.set_cons_succ,i64_w,i32_w]
       rfl
      refine pure_ (i:=18) (N:=some 42) (v:=undef) (a':= ?_) #[true,true,true,true,true,true,true,true,true,true,true,true,true,true,true,true,true,true,true,false,false,false,false,false,false,false,false,false] rfl rfl (any_of HT_.out (by kernel_rfl)) (fun _ _ _ h=>h) (Or.inr ⟨by rfl,rfl⟩) ?_ ?_
      rotate_left
      ·simp only[Act.put,List.setIfInBounds_toArray,List.set_cons_zero,List.set_cons_succ,i64_w,i32_w]
       rfl
      refine pure_ (i:=19) (N:=some 43) (v:=undef) (a':= ?_) #[true,true,true,true,true,true,true,true,true,true,true,true,true,true,true,true,true,true,true,true,false,false,false,false,false,false,false,false] rfl rfl (any_of HT_.out (by kernel_rfl)) (fun _ _ _ h=>h) (Or.inr ⟨by rfl,rfl⟩) ?_ ?_
      rotate_left
      ·simp only[Act.put,List.setIfInBounds_toArray,List.set_cons_zero,List.set_cons_succ,i64_w,i32_w]
       rfl
      refine pure_ (i:=20) (N:=some 44) (v:=undef) (a':= ?_) #[true,true,true,true,true,true,true,true,true,true,true,true,true,true,true,true,true,true,true,true,true,false,false,false,false,false,false,false] rfl rfl (any_of HT_.out (by kernel_rfl)) (fun _ _ _ h=>h) (Or.inr ⟨by rfl,rfl⟩) ?_ ?_
      rotate_left
      ·simp only[Act.put,List.setIfInBounds_toArray,List.set_cons_zero,List.set_cons_succ,i64_w,i32_w]
       rfl
      refine pure_ (i:=21) (N:=some 45) (v:=undef) (a':= ?_) #[true,true,true,true,true,true,true,true,true,true,true,true,true,true,true,true,true,true,true,true,true,true,false,false,false,false,false,false] rfl rfl (any_of HT_.out (by kernel_rfl)) (fun _ _ _ h=>h) (Or.inr ⟨by rfl,rfl⟩) ?_ ?_
      rotate_left
      ·simp only[Act.put,List.setIfInBounds_toArray,List.set_cons_zero,List.set_cons_succ,i64_w,i32_w]
       rfl
      refine pure_ (i:=22) (N:=some 46) (v:=undef) (a':= ?_) #[true,true,true,true,true,true,true,true,true,true,true,true,true,true,true,true,true,true,true,true,true,true,true,false,false,false,false,false] rfl rfl (any_of HT_.out (by kernel_rfl)) (fun _ _ _ h=>h) (Or.inr ⟨by rfl,rfl⟩) ?_ ?_
      rotate_left
      ·simp only[Act.put,List.setIfInBounds_toArray,List.set_cons_zero,List.set_cons_succ,i64_w,i32_w]
       rfl
      refine pure_ (i:=23) (N:=some 47) (v:=undef) (a':= ?_) #[true,true,true,true,true,true,true,true,true,true,true,true,true,true,true,true,true,true,true,true,true,true,true,true,false,false,false,false] rfl rfl (any_of HT_.out (by kernel_rfl)) (fun _ _ _ h=>h) (Or.inr ⟨by rfl,rfl⟩) ?_ ?_
      rotate_left
      ·simp only[Act.put,List.setIfInBounds_toArray,List.set_cons_zero,List.set_cons_succ,i64_w,i32_w]
       rfl
      refine pure_ (i:=24) (N:=some 48) (v:=undef) (a':= ?_) #[true,true,true,true,true,true,true,true,true,true,true,true,true,true,true,true,true,true,true,true,true,true,true,true,true,false,false,false] rfl rfl (any_of HT_.out (by kernel_rfl)) (fun _ _ _ h=>h) (Or.inr ⟨by rfl,rfl⟩) ?_ ?_
      rotate_left
      ·simp only[Act.put,List.setIfInBounds_toArray,List.set_cons_zero,List.set_cons_succ,i64_w,i32_w]
       rfl
      refine pu 25 49 (bm 28 67108863) ?_;refine pu 26 50 (bm 28 134217727) ?_;refine pu 27 6 (bm 28 268435455) ?_;refine done_ (done_of HT_.out (by kernel_rfl)) ?_;try go_wp2
      go_roundg k2
      case measure=>have:=HK1.out;have:=HK2.out;omega
      case rel=>exact⟨(true),(wrap64 (Wk+1)),(by first|rfl|(simp;done)|(simp[*];done)),(by first|rfl|(simp;done)|(simp[*];done)),H',⟨by have:=HK1.out;have:=HK2.out;omega⟩,⟨HO_4.out⟩,⟨HB.out⟩⟩
     as_aux_lemma=>
     rw[Yy c3] at H;have c3b0:decide (Wk<Zh)=false:=Yw c3;clear c3;by_cases c13:x6_2=true
     rotate_left
     ·replace c13:=Bool.eq_false_iff.mpr c13
      subst c13;rw[Yy (show ¬ (false=true) by decide)] at H;have H':=Ya H;clear H;go_wp2;go_roundg k2
      case measure=>have:=HK1.out;have:=HK2.out;omega
      case rel=>exact⟨(Xj),(wrap64 (Zh+1)),(by first|rfl|(simp;done)|(simp[*];done)),H',⟨by have:=HK1.out;have:=HK2.out;omega⟩,⟨HO_4.out⟩,⟨HB.out⟩⟩
     subst c13;first|rw[Yx rfl] at H|rw[Yx trivial] at H
     have H':=Ya H;clear H;go_wp2;go_loopg [8,9] k2 (fun kq v8 v9 w'=> ∃ (x8_3:List Int) (Xk:Int),v9= .int .i64 Xk∧Aside0 (ebbtideref03_Moves.l2 kq l0 Xj Zh x8_3 Xk=some (r1,r2))∧Aside0 (kq≤k2)∧Aside0 (Kd.R k61 61 w' w.heap.size (fun _=>True) u4 Xj)∧Aside0 (Kd.R (Kd.int .i64) 3 w' w.heap.size (fun _=>True) v8 x8_3)∧Aside0 (Below w.heap.size w w'))
     case atStart=>exact⟨(([]:List Int)),(Zh),(by first|rfl|(simp;done)|(simp[*];done)),H',⟨Nat.le_refl _⟩,⟨HO_4.out⟩,⟨by first|exact Kd.R_nil _ _ _ _ _|exact Kd.N_nil _ _ _ _ _|exact Kd.V_nil _ _ _ _ _|exact Kd.Q_nil _ _ _ _ _|exact Kd.S_nil _ _ _ _ _⟩,⟨HB.out⟩⟩
     case round=>
      clear H';try clear c3
      try clear c3b0
      try clear c4
      try clear c5
      try clear c6
      try clear c7
      try clear c8
      try clear c9
      try clear c9b0
      try clear c9b1
      try clear c13
      try clear Jc
      try clear Jd
      try clear Je
      try clear Jf
      try clear Jg
      try clear Jh
      try clear p213
      try clear p214
      try clear q213
      try clear q214
      obtain⟨x8_3,Xk,rfl,HA,HK3,HO_4,HO_8,HB⟩:=hrel;cases gk with
      |zero=>exact absurd HA.out (by simp[ebbtideref03_Moves.l2])
      |succ k3=>
       have H:=HA.out;clear HA;simp only[ebbtideref03_Moves.l2] at H;by_cases c14:Xk<(l0.length:Int)
       ·as_aux_lemma=>
        rw[Yx c14] at H;have c14b0:decide (Xk<(l0.length:Int))=true:=Yv c14;clear c14;by_cases c15:0≤Xk
        rotate_left
        ·rw[Yy c15] at H
         exact absurd H (by simp)
        as_aux_lemma=>
        rw[Yx c15] at H;have c15b0:decide (0≤Xk)=true:=Yv c15;clear c15;by_cases c16:0≤Zh
        rotate_left
        ·rw[Yy c16] at H
         exact absurd H (by simp)
        as_aux_lemma=>
        rw[Yx c16] at H;have c16b0:decide (0≤Zh)=true:=Yv c16;clear c16;by_cases c17:Zh<(l0.length:Int)
        rotate_left
        ·rw[Yy c17] at H
         exact absurd H (by simp)
        as_aux_lemma=>
        rw[Yx c17] at H;have c17b0:decide (Zh<(l0.length:Int))=true:=Yv c17;clear c17;by_cases c18:((rd_T61 l0 Xk).f0)=((rd_T61 l0 Zh).f0)
        rotate_left
        ·as_aux_lemma=>
         rw[Yy c18] at H;have c18b0:(((rd_T61 l0 Xk).f0) == ((rd_T61 l0 Zh).f0))=false:=beq_eq_false_iff_ne.mpr c18;have c18b1:(((rd_T61 l0 Xk).f0) != ((rd_T61 l0 Zh).f0))=true:=bne_iff_ne.mpr c18;have H':=Ya H;clear H;try go_wp2
         replace HO_4:=Ya (Yp HO_4.out);replace HO_8:=Ya (Yp HO_8.out);replace HB:=Ya (Yg HB.out);have p217:0≤(Xk:Int):=od;have q217:Xk<(l0.length:Int):=od;obtain⟨Xf,e217,Vg,Vh,Vi⟩:=at_T61 HR0.out Xk p217 q217;have hw217_2:=Vi;have hw217_1:=Vh;have hw217_0:=Vg;cases e217;replace Vg:=hc HB Vg;replace Vh:=hc HB Vh;replace Vi:=hc HB Vi;replace p217:=eq_true p217;replace q217:=eq_true q217;have p218:0≤(Zh:Int):=od;have q218:Zh<(l0.length:Int):=od;obtain⟨ad218,e218,Vj,Vk,Vl⟩:=at_T61 HR0.out Zh p218 q218;have hw218_2:=Vl;have hw218_1:=Vk;have hw218_0:=Vj;obtain rfl:Xf=ad218:=(by injection e218);replace Vj:=hc HB Vj;replace Vk:=hc HB Vk;replace Vl:=hc HB Vl;replace p218:=eq_true p218;replace q218:=eq_true q218;refine start_ (n:=24) (S:=fun w'=>w'.cell? (Xf.add ((Xk).toNat * 3))=some (.int .i64 ((rd_T61 l0 Xk).f0))∧w'.cell? ⟨(Xf.add ((Xk).toNat * 3)).block,(Xf.add ((Xk).toNat * 3)).off+1,none⟩=some (.int .i64 ((rd_T61 l0 Xk).f1))∧w'.cell? ⟨(Xf.add ((Xk).toNat * 3)).block,(Xf.add ((Xk).toNat * 3)).off+2,none⟩=some (.int .i64 ((rd_T61 l0 Xk).f2))∧w'.cell? (Xf.add ((Zh).toNat * 3))=some (.int .i64 ((rd_T61 l0 Zh).f0))∧w'.cell? ⟨(Xf.add ((Zh).toNat * 3)).block,(Xf.add ((Zh).toNat * 3)).off+1,none⟩=some (.int .i64 ((rd_T61 l0 Zh).f1))∧w'.cell? ⟨(Xf.add ((Zh).toNat * 3)).block,(Xf.add ((Zh).toNat * 3)).off+2,none⟩=some (.int .i64 ((rd_T61 l0 Zh).f2))) (ds:=[]) #[false,false,false,false,false,false,false,false,false,false,false,false,false,false,false,false,false,false,false,false,false,false,false,false] (by kernel_rfl) rfl rfl ⟨((HB.out.cell (Yb w _ hw217_0)).trans hw217_0),((HB.out.cell (Yb w _ hw217_1)).trans hw217_1),((HB.out.cell (Yb w _ hw217_2)).trans hw217_2),((HB.out.cell (Yb w _ hw218_0)).trans hw218_0),((HB.out.cell (Yb w _ hw218_1)).trans hw218_1),((HB.out.cell (Yb w _ hw218_2)).trans hw218_2)⟩ (fun hHeld=> ?_);refine with_tabW ebbtideref03_Moves.tab15 ebbtideref03_Moves.bits15 (fun HT_ HW_=> ?_);generalize wr.drew=w24 at HO_4 HO_8 HB Vg Vh Vi Vj Vk Vl hHeld ⊢;refine pu 0 60 (bm 24 1) ?_;refine pu 1 61 (bm 24 3) ?_;refine pu 2 62 (bm 24 7) ?_;refine pure_ (i:=3) (N:=some 63) (v:= ?_) (a':= ?_) #[true,true,true,true,false,false,false,false,false,false,false,false,false,false,false,false,false,false,false,false,false,false,false,false] rfl rfl (any_of HT_.out (by kernel_rfl)) (fun _ _ _ h=>h) (Or.inl ⟨by rfl,?_⟩) ?_ ?_
         rotate_left
         ·intro w'
          go_simp
          with_reducible rfl
         rotate_left
         ·simp only[Act.put,List.setIfInBounds_toArray,List.set_cons_zero,List.set_cons_succ,i64_w,i32_w]
          rfl
         refine pure_ (i:=5) (N:=some 65) (v:= ?_) (a':= ?_) #[true,true,true,true,false,true,false,false,false,false,false,false,false,false,false,false,false,false,false,false,false,false,false,false] rfl rfl (any_of HT_.out (by kernel_rfl)) (fun _ _ _ h=>h) (Or.inl ⟨by rfl,?_⟩) ?_ ?_
         rotate_left
         ·intro w'
          go_simp
          with_reducible rfl
         rotate_left
         ·simp only[Act.put,List.setIfInBounds_toArray,List.set_cons_zero,List.set_cons_succ,i64_w,i32_w]
          rfl
         refine pure_ (i:=6) (N:=some 66) (v:= ?_) (a':= ?_) #[true,true,true,true,false,true,true,false,false,false,false,false,false,false,false,false,false,false,false,false,false,false,false,false] rfl rfl (any_of HT_.out (by kernel_rfl)) (fun _ _ _ h=>h) (Or.inl ⟨by rfl,?_⟩) ?_ ?_
         rotate_left
         ·intro w'
          go_simp
          with_reducible rfl
         rotate_left
         ·simp only[Act.put,List.setIfInBounds_toArray,List.set_cons_zero,List.set_cons_succ,i64_w,i32_w]
          rfl
         refine pure_ (i:=7) (N:=some 67) (v:= ?_) (a':= ?_) #[true,true,true,true,false,true,true,true,false,false,false,false,false,false,false,false,false,false,false,false,false,false,false,false] rfl rfl (any_of HT_.out (by kernel_rfl)) (fun _ _ _ h=>h) (Or.inl ⟨by rfl,?_⟩) ?_ ?_
         rotate_left
         ·intro w'
          go_simp
          with_reducible rfl
         rotate_left
         ·simp only[Act.put,List.setIfInBounds_toArray,List.set_cons_zero,List.set_cons_succ,i64_w,i32_w]
          rfl
         refine pure_ (i:=8) (N:=some 68) (v:= ?_) (a':= ?_) #[true,true,true,true,false,true,true,true,true,false,false,false,false,false,false,false,false,false,false,false,false,false,false,false] rfl rfl (any_of HT_.out (by kernel_rfl)) (fun _ _ _ h=>h) (Or.inl ⟨by rfl,?_⟩) ?_ ?_
         rotate_left
         ·intro w'
          go_simp
          with_reducible rfl
         rotate_left
         ·simp only[Act.put,List.setIfInBounds_toArray,List.set_cons_zero,List.set_cons_succ,i64_w,i32_w]
          rfl
         refine take_ (i:=4) (N:=some 64) (v:= ?_) (a':= ?_) #[true,true,true,true,true,true,true,true,true,false,false,false,false,false,false,false,false,false,false,false,false,false,false,false] rfl rfl (take_ofW HT_.out HW_.out (by kernel_rfl)) (fun _ _ _ h=>h) (Or.inl ⟨by rfl,?_⟩) hHeld ?_ ?_
         rotate_left
         ·rintro w' ⟨s0,s1,s2,s3,s4,s5⟩
          go_simp
          with_reducible rfl
         rotate_left
         ·simp only[Act.put,List.setIfInBounds_toArray,List.set_cons_zero,List.set_cons_succ,i64_w,i32_w]
          rfl
         refine take_ (i:=9) (N:=some 69) (v:= ?_) (a':= ?_) #[true,true,true,true,true,true,true,true,true,true,false,false,false,false,false,false,false,false,false,false,false,false,false,false] rfl rfl (take_ofW HT_.out HW_.out (by kernel_rfl)) (fun _ _ _ h=>h) (Or.inl ⟨by rfl,?_⟩) hHeld ?_ ?_
         rotate_left
         ·rintro w' ⟨s0,s1,s2,s3,s4,s5⟩
          go_simp
          with_reducible rfl
         rotate_left
         ·simp only[Act.put,List.setIfInBounds_toArray,List.set_cons_zero,List.set_cons_succ,i64_w,i32_w]
          rfl
         refine pure_ (i:=10) (N:=some 70) (v:= ?_) (a':= ?_) #[true,true,true,true,true,true,true,true,true,true,true,false,false,false,false,false,false,false,false,false,false,false,false,false] rfl rfl (any_of HT_.out (by kernel_rfl)) (fun _ _ _ h=>h) (Or.inl ⟨by rfl,?_⟩) ?_ ?_
         rotate_left
         ·intro w'
          go_simp
          with_reducible rfl
         rotate_left
         ·simp only[Act.put,List.setIfInBounds_toArray,List.set_cons_zero,List.set_cons_succ,i64_w,i32_w]
          rfl
         refine pure_ (i:=11) (N:=some 71) (v:= ?_) (a':= ?_) #[true,true,true,true,true,true,true,true,true,true,true,true,false,false,false,false,false,false,false,false,false,false,false,false] rfl rfl (any_of HT_.out (by kernel_rfl)) (fun _ _ _ h=>h) (Or.inl ⟨by rfl,?_⟩) ?_ ?_
         rotate_left
         ·intro w'
          go_simp
          with_reducible rfl
         rotate_left
         ·simp only[Act.put,List.setIfInBounds_toArray,List.set_cons_zero,List.set_cons_succ,i64_w,i32_w]
          rfl
         refine pure_ (i:=12) (N:=some 72) (v:=undef) (a':= ?_) #[true,true,true,true,true,true,true,true,true,true,true,true,true,false,false,false,false,false,false,false,false,false,false,false] rfl rfl (any_of HT_.out (by kernel_rfl)) (fun _ _ _ h=>h) (Or.inr ⟨by rfl,rfl⟩) ?_ ?_
         rotate_left
         ·simp only[Act.put,List.setIfInBounds_toArray,List.set_cons_zero,List.set_cons_succ,i64_w,i32_w]
          rfl
         refine pure_ (i:=13) (N:=some 73) (v:=undef) (a':= ?_) #[true,true,true,true,true,true,true,true,true,true,true,true,true,true,false,false,false,false,false,false,false,false,false,false] rfl rfl (any_of HT_.out (by kernel_rfl)) (fun _ _ _ h=>h) (Or.inr ⟨by rfl,rfl⟩) ?_ ?_
         rotate_left
         ·simp only[Act.put,List.setIfInBounds_toArray,List.set_cons_zero,List.set_cons_succ,i64_w,i32_w]
          rfl
         refine pure_ (i:=14) (N:=some 74) (v:=undef) (a':= ?_) #[true,true,true,true,true,true,true,true,true,true,true,true,true,true,true,false,false,false,false,false,false,false,false,false] rfl rfl (any_of HT_.out (by kernel_rfl)) (fun _ _ _ h=>h) (Or.inr ⟨by rfl,rfl⟩) ?_ ?_
         rotate_left
         ·simp only[Act.put,List.setIfInBounds_toArray,List.set_cons_zero,List.set_cons_succ,i64_w,i32_w]
          rfl
         refine pure_ (i:=15) (N:=some 75) (v:=undef) (a':= ?_) #[true,true,true,true,true,true,true,true,true,true,true,true,true,true,true,true,false,false,false,false,false,false,false,false] rfl rfl (any_of HT_.out (by kernel_rfl)) (fun _ _ _ h=>h) (Or.inr ⟨by rfl,rfl⟩) ?_ ?_
         rotate_left
         ·simp only[Act.put,List.setIfInBounds_toArray,List.set_cons_zero,List.set_cons_succ,i64_w,i32_w]
          rfl
         refine pure_ (i:=16) (N:=some 76) (v:=undef) (a':= ?_) #[true,true,true,true,true,true,true,true,true,true,true,true,true,true,true,true,true,false,false,false,false,false,false,false] rfl rfl (any_of HT_.out (by kernel_rfl)) (fun _ _ _ h=>h) (Or.inr ⟨by rfl,rfl⟩) ?_ ?_
         rotate_left
         ·simp only[Act.put,List.setIfInBounds_toArray,List.set_cons_zero,List.set_cons_succ,i64_w,i32_w]
          rfl
         refine pure_ (i:=17) (N:=some 77) (v:=undef) (a':= ?_) #[true,true,true,true,true,true,true,true,true,true,true,true,true,true,true,true,true,true,false,false,false,false,false,false] rfl rfl (any_of HT_.out (by kernel_rfl)) (fun _ _ _ h=>h) (Or.inr ⟨by rfl,rfl⟩) ?_ ?_
         rotate_left
         ·simp only[Act.put,List.setIfInBounds_toArray,List.set_cons_zero,List.set_cons_succ,i64_w,i32_w]
          rfl
         refine pure_ (i:=18) (N:=some 78) (v:=undef) (a':= ?_) #[true,true,true,true,true,true,true,true,true,true,true,true,true,true,true,true,true,true,true,false,false,false,false,false] rfl rfl (any_of HT_.out (by kernel_rfl)) (fun _ _ _ h=>h) (Or.inr ⟨by rfl,rfl⟩) ?_ ?_
         rotate_left
         ·simp only[Act.put,List.setIfInBounds_toArray,List.set_cons_zero,List.set_cons_succ,i64_w,i32_w]
          rfl
         refine pure_ (i:=19) (N:=some 79) (v:=undef) (a':= ?_) #[true,true,true,true,true,true,true,true,true,true,true,true,true,true,true,true,true,true,true,true,false,false,false,false] rfl rfl (any_of HT_.out (by kernel_rfl)) (fun _ _ _ h=>h) (Or.inr ⟨by rfl,rfl⟩) ?_ ?_
         rotate_left
         ·simp only[Act.put,List.setIfInBounds_toArray,List.set_cons_zero,List.set_cons_succ,i64_w,i32_w]
          rfl
         refine pure_ (i:=20) (N:=some 80) (v:=undef) (a':= ?_) #[true,true,true,true,true,true,true,true,true,true,true,true,true,true,true,true,true,true,true,true,true,false,false,false] rfl rfl (any_of HT_.out (by kernel_rfl)) (fun _ _ _ h=>h) (Or.inr ⟨by rfl,rfl⟩) ?_ ?_
         rotate_left
         ·simp only[Act.put,List.setIfInBounds_toArray,List.set_cons_zero,List.set_cons_succ,i64_w,i32_w]
          rfl
         refine pure_ (i:=21) (N:=some 81) (v:=undef) (a':= ?_) #[true,true,true,true,true,true,true,true,true,true,true,true,true,true,true,true,true,true,true,true,true,true,false,false] rfl rfl (any_of HT_.out (by kernel_rfl)) (fun _ _ _ h=>h) (Or.inr ⟨by rfl,rfl⟩) ?_ ?_
         rotate_left
         ·simp only[Act.put,List.setIfInBounds_toArray,List.set_cons_zero,List.set_cons_succ,i64_w,i32_w]
          rfl
         refine pure_ (i:=22) (N:=some 82) (v:=undef) (a':= ?_) #[true,true,true,true,true,true,true,true,true,true,true,true,true,true,true,true,true,true,true,true,true,true,true,false] rfl rfl (any_of HT_.out (by kernel_rfl)) (fun _ _ _ h=>h) (Or.inr ⟨by rfl,rfl⟩) ?_ ?_
         rotate_left
         ·simp only[Act.put,List.setIfInBounds_toArray,List.set_cons_zero,List.set_cons_succ,i64_w,i32_w]
          rfl
         refine pure_ (i:=23) (N:=some 83) (v:= ?_) (a':= ?_) #[true,true,true,true,true,true,true,true,true,true,true,true,true,true,true,true,true,true,true,true,true,true,true,true] rfl rfl (any_of HT_.out (by kernel_rfl)) (fun _ _ _ h=>h) (Or.inl ⟨by rfl,?_⟩) ?_ ?_
         rotate_left
         ·intro w'
          go_simp
          with_reducible rfl
         rotate_left
         ·simp only[Act.put,List.setIfInBounds_toArray,List.set_cons_zero,List.set_cons_succ,i64_w,i32_w]
          rfl
         refine done_ (done_of HT_.out (by kernel_rfl)) ?_;try go_wp2
         go_roundg k3
         case measure=>have:=HK1.out;have:=HK2.out;have:=HK3.out;omega
         case rel=>exact⟨(x8_3),(wrap64 (Xk+1)),(by first|rfl|(simp;done)|(simp[*];done)),H',⟨by have:=HK1.out;have:=HK2.out;have:=HK3.out;omega⟩,⟨kR HO_4⟩,⟨kR HO_8⟩,⟨bl⟩⟩
        as_aux_lemma=>
        rw[Yx c18] at H;have c18b0:(((rd_T61 l0 Xk).f0) == ((rd_T61 l0 Zh).f0))=true:=beq_iff_eq.mpr c18;have c18b1:(((rd_T61 l0 Xk).f0) != ((rd_T61 l0 Zh).f0))=false:=bne_eq_false_iff_eq.mpr c18;clear c18;by_cases c19:((rd_T61 l0 Xk).f1)=((rd_T61 l0 Zh).f1)
        rotate_left
        ·as_aux_lemma=>
         rw[Yy c19] at H;have c19b0:(((rd_T61 l0 Xk).f1) == ((rd_T61 l0 Zh).f1))=false:=beq_eq_false_iff_ne.mpr c19;have c19b1:(((rd_T61 l0 Xk).f1) != ((rd_T61 l0 Zh).f1))=true:=bne_iff_ne.mpr c19;have H':=Ya H;clear H;try go_wp2
         replace HO_4:=Ya (Yp HO_4.out);replace HO_8:=Ya (Yp HO_8.out);replace HB:=Ya (Yg HB.out);have p217:0≤(Xk:Int):=od;have q217:Xk<(l0.length:Int):=od;obtain⟨Xf,e217,Vg,Vh,Vi⟩:=at_T61 HR0.out Xk p217 q217;have hw217_2:=Vi;have hw217_1:=Vh;have hw217_0:=Vg;cases e217;replace Vg:=hc HB Vg;replace Vh:=hc HB Vh;replace Vi:=hc HB Vi;replace p217:=eq_true p217;replace q217:=eq_true q217;have p218:0≤(Zh:Int):=od;have q218:Zh<(l0.length:Int):=od;obtain⟨ad218,e218,Vj,Vk,Vl⟩:=at_T61 HR0.out Zh p218 q218;have hw218_2:=Vl;have hw218_1:=Vk;have hw218_0:=Vj;obtain rfl:Xf=ad218:=(by injection e218);replace Vj:=hc HB Vj;replace Vk:=hc HB Vk;replace Vl:=hc HB Vl;replace p218:=eq_true p218;replace q218:=eq_true q218;have p219:0≤(Xk:Int):=od;have q219:Xk<(l0.length:Int):=od;obtain⟨ad219,e219,Jy,Jz,hx219_2⟩:=at_T61 HR0.out Xk p219 q219;have hw219_2:=hx219_2;have hw219_1:=Jz;have hw219_0:=Jy;obtain rfl:Xf=ad219:=(by injection e219);replace Jy:=hc HB Jy;replace Jz:=hc HB Jz;replace hx219_2:=hc HB hx219_2;replace p219:=eq_true p219;replace q219:=eq_true q219;have p220:0≤(Zh:Int):=od;have q220:Zh<(l0.length:Int):=od;obtain⟨ad220,e220,hx220_0,hx220_1,hx220_2⟩:=at_T61 HR0.out Zh p220 q220;have hw220_2:=hx220_2;have hw220_1:=hx220_1;have hw220_0:=hx220_0;obtain rfl:Xf=ad220:=(by injection e220);replace hx220_0:=hc HB hx220_0;replace hx220_1:=hc HB hx220_1;replace hx220_2:=hc HB hx220_2;replace p220:=eq_true p220;replace q220:=eq_true q220;refine start_ (n:=24) (S:=fun w'=>w'.cell? (Xf.add ((Xk).toNat * 3))=some (.int .i64 ((rd_T61 l0 Xk).f0))∧w'.cell? ⟨(Xf.add ((Xk).toNat * 3)).block,(Xf.add ((Xk).toNat * 3)).off+1,none⟩=some (.int .i64 ((rd_T61 l0 Xk).f1))∧w'.cell? ⟨(Xf.add ((Xk).toNat * 3)).block,(Xf.add ((Xk).toNat * 3)).off+2,none⟩=some (.int .i64 ((rd_T61 l0 Xk).f2))∧w'.cell? (Xf.add ((Zh).toNat * 3))=some (.int .i64 ((rd_T61 l0 Zh).f0))∧w'.cell? ⟨(Xf.add ((Zh).toNat * 3)).block,(Xf.add ((Zh).toNat * 3)).off+1,none⟩=some (.int .i64 ((rd_T61 l0 Zh).f1))∧w'.cell? ⟨(Xf.add ((Zh).toNat * 3)).block,(Xf.add ((Zh).toNat * 3)).off+2,none⟩=some (.int .i64 ((rd_T61 l0 Zh).f2))∧w'.cell? (Xf.add ((Xk).toNat * 3))=some (.int .i64 ((rd_T61 l0 Xk).f0))∧w'.cell? ⟨(Xf.add ((Xk).toNat * 3)).block,(Xf.add ((Xk).toNat * 3)).off+1,none⟩=some (.int .i64 ((rd_T61 l0 Xk).f1))∧w'.cell? ⟨(Xf.add ((Xk).toNat * 3)).block,(Xf.add ((Xk).toNat * 3)).off+2,none⟩=some (.int .i64 ((rd_T61 l0 Xk).f2))∧w'.cell? (Xf.add ((Zh).toNat * 3))=some (.int .i64 ((rd_T61 l0 Zh).f0))∧w'.cell? ⟨(Xf.add ((Zh).toNat * 3)).block,(Xf.add ((Zh).toNat * 3)).off+1,none⟩=some (.int .i64 ((rd_T61 l0 Zh).f1))∧w'.cell? ⟨(Xf.add ((Zh).toNat * 3)).block,(Xf.add ((Zh).toNat * 3)).off+2,none⟩=some (.int .i64 ((rd_T61 l0 Zh).f2))) (ds:=[]) #[false,false,false,false,false,false,false,false,false,false,false,false,false,false,false,false,false,false,false,false,false,false,false,false] (by kernel_rfl) rfl rfl ⟨((HB.out.cell (Yb w _ hw217_0)).trans hw217_0),((HB.out.cell (Yb w _ hw217_1)).trans hw217_1),((HB.out.cell (Yb w _ hw217_2)).trans hw217_2),((HB.out.cell (Yb w _ hw218_0)).trans hw218_0),((HB.out.cell (Yb w _ hw218_1)).trans hw218_1),((HB.out.cell (Yb w _ hw218_2)).trans hw218_2),((HB.out.cell (Yb w _ hw219_0)).trans hw219_0),((HB.out.cell (Yb w _ hw219_1)).trans hw219_1),((HB.out.cell (Yb w _ hw219_2)).trans hw219_2),((HB.out.cell (Yb w _ hw220_0)).trans hw220_0),((HB.out.cell (Yb w _ hw220_1)).trans hw220_1),((HB.out.cell (Yb w _ hw220_2)).trans hw220_2)⟩ (fun hHeld=> ?_);refine with_tabW ebbtideref03_Moves.tab15 ebbtideref03_Moves.bits15 (fun HT_ HW_=> ?_);generalize wr.drew=w23 at HO_4 HO_8 HB Vg Vh Vi Vj Vk Vl Jy Jz hx219_2 hx220_0 hx220_1 hx220_2 hHeld ⊢;refine pu 0 60 (bm 24 1) ?_;refine pu 1 61 (bm 24 3) ?_;refine pu 2 62 (bm 24 7) ?_;refine pu 3 63 (bm 24 15) ?_;refine pu 5 65 (bm 24 47) ?_;refine pu 6 66 (bm 24 111) ?_;refine pu 7 67 (bm 24 239) ?_;refine pu 8 68 (bm 24 495) ?_;refine ta 4 64 (bm 24 511) hHeld ?_;refine ta 9 69 (bm 24 1023) hHeld ?_;refine pu 10 70 (bm 24 2047) ?_;refine pu 11 71 (bm 24 4095) ?_;refine pu 12 72 (bm 24 8191) ?_;refine pu 13 73 (bm 24 16383) ?_;refine pu 14 74 (bm 24 32767) ?_;refine pu 15 75 (bm 24 65535) ?_;refine pu 17 77 (bm 24 196607) ?_;refine pu 18 78 (bm 24 458751) ?_;refine pu 19 79 (bm 24 983039) ?_;refine pu 20 80 (bm 24 2031615) ?_;refine ta 16 76 (bm 24 2097151) hHeld ?_;refine ta 21 81 (bm 24 4194303) hHeld ?_;refine pu 22 82 (bm 24 8388607) ?_;refine pu 23 83 (bm 24 16777215) ?_;refine done_ (done_of HT_.out (by kernel_rfl)) ?_;try go_wp2
         go_roundg k3
         case measure=>have:=HK1.out;have:=HK2.out;have:=HK3.out;omega
         case rel=>exact⟨(x8_3),(wrap64 (Xk+1)),(by first|rfl|(simp;done)|(simp[*];done)),H',⟨by have:=HK1.out;have:=HK2.out;have:=HK3.out;omega⟩,⟨HO_4.out⟩,⟨HO_8.out⟩,⟨HB.out⟩⟩
        as_aux_lemma=>
        rw[Yx c19] at H;have c19b0:(((rd_T61 l0 Xk).f1) == ((rd_T61 l0 Zh).f1))=true:=beq_iff_eq.mpr c19;have c19b1:(((rd_T61 l0 Xk).f1) != ((rd_T61 l0 Zh).f1))=false:=bne_eq_false_iff_eq.mpr c19;clear c19;by_cases c20:x8_3.length<17592186044416
        rotate_left
        ·rw[Yy c20] at H
         exact absurd H (by simp)
        as_aux_lemma=>
        rw[Yx c20] at H;have LMc20:=Ya c20;clear c20;obtain⟨y222,hy222⟩: ∃ y_:List Int,y_=(x8_3 ++ [(rd_T61 l0 Xk).f2]):=⟨_,rfl⟩;rw[← hy222] at H;have Ny222:=Ya hy222;clear hy222;have H':=Ya H;clear H;try go_wp2
        replace HO_4:=Ya (Yp HO_4.out);replace HO_8:=Ya (Yp HO_8.out);replace HB:=Ya (Yg HB.out);have p217:0≤(Xk:Int):=od;have q217:Xk<(l0.length:Int):=od;obtain⟨Xf,e217,Vg,Vh,Vi⟩:=at_T61 HR0.out Xk p217 q217;have hw217_2:=Vi;have hw217_1:=Vh;have hw217_0:=Vg;cases e217;replace Vg:=hc HB Vg;replace Vh:=hc HB Vh;replace Vi:=hc HB Vi;replace p217:=eq_true p217;replace q217:=eq_true q217;have p218:0≤(Zh:Int):=od;have q218:Zh<(l0.length:Int):=od;obtain⟨ad218,e218,Vj,Vk,Vl⟩:=at_T61 HR0.out Zh p218 q218;have hw218_2:=Vl;have hw218_1:=Vk;have hw218_0:=Vj;obtain rfl:Xf=ad218:=(by injection e218);replace Vj:=hc HB Vj;replace Vk:=hc HB Vk;replace Vl:=hc HB Vl;replace p218:=eq_true p218;replace q218:=eq_true q218;have p219:0≤(Xk:Int):=od;have q219:Xk<(l0.length:Int):=od;obtain⟨ad219,e219,Jy,Jz,hx219_2⟩:=at_T61 HR0.out Xk p219 q219;have hw219_2:=hx219_2;have hw219_1:=Jz;have hw219_0:=Jy;obtain rfl:Xf=ad219:=(by injection e219);replace Jy:=hc HB Jy;replace Jz:=hc HB Jz;replace hx219_2:=hc HB hx219_2;replace p219:=eq_true p219;replace q219:=eq_true q219;have p220:0≤(Zh:Int):=od;have q220:Zh<(l0.length:Int):=od;obtain⟨ad220,e220,hx220_0,hx220_1,hx220_2⟩:=at_T61 HR0.out Zh p220 q220;have hw220_2:=hx220_2;have hw220_1:=hx220_1;have hw220_0:=hx220_0;obtain rfl:Xf=ad220:=(by injection e220);replace hx220_0:=hc HB hx220_0;replace hx220_1:=hc HB hx220_1;replace hx220_2:=hc HB hx220_2;replace p220:=eq_true p220;replace q220:=eq_true q220;refine start_ (n:=24) (S:=fun w'=>w'.cell? (Xf.add ((Xk).toNat * 3))=some (.int .i64 ((rd_T61 l0 Xk).f0))∧w'.cell? ⟨(Xf.add ((Xk).toNat * 3)).block,(Xf.add ((Xk).toNat * 3)).off+1,none⟩=some (.int .i64 ((rd_T61 l0 Xk).f1))∧w'.cell? ⟨(Xf.add ((Xk).toNat * 3)).block,(Xf.add ((Xk).toNat * 3)).off+2,none⟩=some (.int .i64 ((rd_T61 l0 Xk).f2))∧w'.cell? (Xf.add ((Zh).toNat * 3))=some (.int .i64 ((rd_T61 l0 Zh).f0))∧w'.cell? ⟨(Xf.add ((Zh).toNat * 3)).block,(Xf.add ((Zh).toNat * 3)).off+1,none⟩=some (.int .i64 ((rd_T61 l0 Zh).f1))∧w'.cell? ⟨(Xf.add ((Zh).toNat * 3)).block,(Xf.add ((Zh).toNat * 3)).off+2,none⟩=some (.int .i64 ((rd_T61 l0 Zh).f2))∧w'.cell? (Xf.add ((Xk).toNat * 3))=some (.int .i64 ((rd_T61 l0 Xk).f0))∧w'.cell? ⟨(Xf.add ((Xk).toNat * 3)).block,(Xf.add ((Xk).toNat * 3)).off+1,none⟩=some (.int .i64 ((rd_T61 l0 Xk).f1))∧w'.cell? ⟨(Xf.add ((Xk).toNat * 3)).block,(Xf.add ((Xk).toNat * 3)).off+2,none⟩=some (.int .i64 ((rd_T61 l0 Xk).f2))∧w'.cell? (Xf.add ((Zh).toNat * 3))=some (.int .i64 ((rd_T61 l0 Zh).f0))∧w'.cell? ⟨(Xf.add ((Zh).toNat * 3)).block,(Xf.add ((Zh).toNat * 3)).off+1,none⟩=some (.int .i64 ((rd_T61 l0 Zh).f1))∧w'.cell? ⟨(Xf.add ((Zh).toNat * 3)).block,(Xf.add ((Zh).toNat * 3)).off+2,none⟩=some (.int .i64 ((rd_T61 l0 Zh).f2))) (ds:=[]) #[false,false,false,false,false,false,false,false,false,false,false,false,false,false,false,false,false,false,false,false,false,false,false,false] (by kernel_rfl) rfl rfl ⟨((HB.out.cell (Yb w _ hw217_0)).trans hw217_0),((HB.out.cell (Yb w _ hw217_1)).trans hw217_1),((HB.out.cell (Yb w _ hw217_2)).trans hw217_2),((HB.out.cell (Yb w _ hw218_0)).trans hw218_0),((HB.out.cell (Yb w _ hw218_1)).trans hw218_1),((HB.out.cell (Yb w _ hw218_2)).trans hw218_2),((HB.out.cell (Yb w _ hw219_0)).trans hw219_0),((HB.out.cell (Yb w _ hw219_1)).trans hw219_1),((HB.out.cell (Yb w _ hw219_2)).trans hw219_2),((HB.out.cell (Yb w _ hw220_0)).trans hw220_0),((HB.out.cell (Yb w _ hw220_1)).trans hw220_1),((HB.out.cell (Yb w _ hw220_2)).trans hw220_2)⟩ (fun hHeld=> ?_);refine with_tabW ebbtideref03_Moves.tab15 ebbtideref03_Moves.bits15 (fun HT_ HW_=> ?_);generalize wr.drew=w21 at HO_4 HO_8 HB Vg Vh Vi Vj Vk Vl Jy Jz hx219_2 hx220_0 hx220_1 hx220_2 hHeld ⊢;refine pu 0 60 (bm 24 1) ?_;refine pu 1 61 (bm 24 3) ?_;refine pu 2 62 (bm 24 7) ?_;refine pu 3 63 (bm 24 15) ?_;refine pu 5 65 (bm 24 47) ?_;refine pu 6 66 (bm 24 111) ?_;refine pu 7 67 (bm 24 239) ?_;refine pu 8 68 (bm 24 495) ?_;refine ta 4 64 (bm 24 511) hHeld ?_;refine ta 9 69 (bm 24 1023) hHeld ?_;refine pu 10 70 (bm 24 2047) ?_;refine pu 11 71 (bm 24 4095) ?_;refine pu 12 72 (bm 24 8191) ?_;refine pu 13 73 (bm 24 16383) ?_;refine pu 14 74 (bm 24 32767) ?_;refine pu 15 75 (bm 24 65535) ?_;refine pu 17 77 (bm 24 196607) ?_;refine pu 18 78 (bm 24 458751) ?_;refine pu 19 79 (bm 24 983039) ?_;refine pu 20 80 (bm 24 2031615) ?_;refine ta 16 76 (bm 24 2097151) hHeld ?_;refine ta 21 81 (bm 24 4194303) hHeld ?_;refine pu 22 82 (bm 24 8388607) ?_;refine pu 23 83 (bm 24 16777215) ?_;refine done_ (done_of HT_.out (by kernel_rfl)) ?_;have p221:0≤(Xk:Int):=od;have q221:Xk<(l0.length:Int):=od;obtain⟨ad221,e221,hx221_0,hx221_1,hx221_2⟩:=at_T61 HR0.out Xk p221 q221;obtain rfl:Xf=ad221:=(by injection e221);replace hx221_0:=hc HB hx221_0;replace hx221_1:=hc HB hx221_1;replace hx221_2:=hc HB hx221_2;replace p221:=eq_true p221;replace q221:=eq_true q221;try go_wp2_with (first|((with_reducible refine gate_builtin (b:= .append) (xs:= #[.tmp 84, .tmp 90]) rfl ?_);at_builtin;refine Kd.R_append (Kd.int .i64) (w0:=w) w.heap.size rfl (.tmp 84) (.tmp 90) 56 3 (.int .i64 0) 8 rfl Try.underlying56 info3 rfl (by decide) (by omega) u8 x8_3 ((rd_T61 l0 Xk).f2) [.int .i64 ((rd_T61 l0 Xk).f2)] (fun _=>True) (fun _=>False) rfl rfl ?aP (fun _ hk=>hk.elim) ?aF ?aO ?aB ?aS ?aL ?_;(case aP=>exact rfl);(case aB=>exact bl);(case aF=>exact(fun _ _=>trivial));(case aO=>exact(kR HO_8));(case aS=>exact(Yi bl));(case aL=>have:=LMc20.out;omega);intro v223 w22 ho hb hg hat;rw[← Ny222.out] at ho;replace HO_4:=Ya (Kd.R_over' (kR HO_4) (Kd.R_typed (kR HO_8)) (by decide) hg);replace HB:=Ya (hb);have HO224:=Ya (ho);clear HO_8;clear ho hb hg hat))
        go_roundg k3
        case measure=>have:=HK1.out;have:=HK2.out;have:=HK3.out;omega
        case rel=>exact⟨(y222),(wrap64 (Xk+1)),(by first|rfl|(simp;done)|(simp[*];done)),H',⟨by have:=HK1.out;have:=HK2.out;have:=HK3.out;omega⟩,⟨HO_4.out⟩,⟨HO224.out⟩,⟨HB.out⟩⟩
       as_aux_lemma=>
       rw[Yy c14] at H;have c14b0:decide (Xk<(l0.length:Int))=false:=Yw c14;clear c14;replace H:=Option.bind_eq_some_iff.mp H;obtain⟨⟨t225,t226⟩,A250,H⟩:=H;replace H:(if t226=true then(if t225=0 then(ebbtideref03_Moves.l0 k3 l0 Xj (wrap64 (Zh+1))) else(if 0≤Zh then(if Zh<(l0.length:Int) then(if Xj.length<5864062014805 then((some (Xj ++ [(⟨(rd_T61 l0 Zh).f0,(rd_T61 l0 Zh).f1,t225⟩:S61)]:List (S61))).bind fun y229=>(ebbtideref03_Moves.l3 k3 l0 y229 Zh (wrap64 ((y229.length:Int) - 1)))) else(none)) else(none)) else(none))) else(some (([]:List (S61)),10)))=some (r1,r2):=H;have A25:=Ya A250;clear A250;by_cases c26:t226=true
       rotate_left
       ·replace c26:=Bool.eq_false_iff.mpr c26
        subst c26;rw[Yy (show ¬ (false=true) by decide)] at H;simp only[Option.some.injEq,Prod.mk.injEq] at H;obtain⟨rfl,rfl⟩:=H;obtain⟨Ao60,co60,eo60⟩:=Kd.R_slice HO_8.out;subst eo60;go_wp2_with (first|((with_reducible refine gate_callee (f:=56) rfl ?_);refine gl (some 94) Try.func56 #[.slice Ao60 x8_3.length co60] ?_;(with_reducible refine(ebbtideref01_Sum.calls k3 _ _ x8_3 t225 false _ ?side1 ?side2 A25.out).mono ?_);(case side1=>exact kC (Kd.R_reads' HO_8.out).2.2);(case side2=>exact(Kd.R_reads' HO_8.out).2.1);rintro e w' ⟨rfl,⟨nd,rfl⟩⟩;refine⟨_,rfl,?_⟩));go_ret2;exact⟨_,by first|rfl|(simp[errW_none,errW_some]<;>rfl)|(simp[*,errW_none,errW_some]<;>rfl),by first|exact Kd.R_nil _ _ _ _ _|exact Kd.N_nil _ _ _ _ _|exact Kd.V_nil _ _ _ _ _|exact Kd.Q_nil _ _ _ _ _|exact Kd.S_nil _ _ _ _ _,bl⟩
       subst c26;have H1:(if t225=0 then(ebbtideref03_Moves.l0 k3 l0 Xj (wrap64 (Zh+1))) else(if 0≤Zh then(if Zh<(l0.length:Int) then(if Xj.length<5864062014805 then((some (Xj ++ [(⟨(rd_T61 l0 Zh).f0,(rd_T61 l0 Zh).f1,t225⟩:S61)]:List (S61))).bind fun y229=>(ebbtideref03_Moves.l3 k3 l0 y229 Zh (wrap64 ((y229.length:Int) - 1)))) else(none)) else(none)) else(none)))=some (r1,r2):=by first|(rw[Yx rfl] at H;exact H)|(rw[Yx trivial] at H;exact H)
       clear H;have H:=H1;clear H1;by_cases c27:t225=0
       ·rw[Yx c27] at H
        have c27b0:(t225 == 0)=true:=beq_iff_eq.mpr c27;have c27b1:(t225 != 0)=false:=bne_eq_false_iff_eq.mpr c27;clear c27;have H':=Ya H;clear H;obtain⟨Ao28,co28,eo28⟩:=Kd.R_slice HO_8.out;subst eo28;go_wp2_with (first|((with_reducible refine gate_callee (f:=56) rfl ?_);refine goesL_ (some 94) rfl rfl Try.func56 (by kernel_rfl) rfl #[.slice Ao28 x8_3.length co28] rfl (by(try simp only[List.map_toArray,List.map_cons,List.map_nil]);first|done|rfl|(simp only[List.length_drop,List.length_take];rfl)) ?_;(with_reducible refine(ebbtideref01_Sum.calls k3 _ _ x8_3 t225 true _ ?side1 ?side2 A25.out).mono ?_);(case side1=>repeat(first|exact(Kd.R_reads' HO_8.out).2.2|(with_reducible refine Kd.C_alloc ?_ _)|(with_reducible refine Kd.C_drewN ?_ _)|(with_reducible refine Kd.C_drew ?_)));(case side2=>exact(Kd.R_reads' HO_8.out).2.1);rintro e w' ⟨rfl,⟨nd,rfl⟩⟩;refine⟨_,rfl,?_⟩));go_roundg k3
        case measure=>have:=HK1.out;have:=HK2.out;have:=HK3.out;omega
        case rel=>exact⟨(Xj),(wrap64 (Zh+1)),(by first|rfl|(simp;done)|(simp[*];done)),H',⟨by have:=HK1.out;have:=HK2.out;have:=HK3.out;omega⟩,⟨by(with_reducible repeat(first|apply Yr|apply Yq|apply Yp));exact HO_4.out⟩,⟨by repeat(first|(with_reducible first|exact HB.out|apply Ye|apply Yd|apply Yg)|exact HB.out)⟩⟩
       as_aux_lemma=>
       rw[Yy c27] at H;have c27b0:(t225 == 0)=false:=beq_eq_false_iff_ne.mpr c27;have c27b1:(t225 != 0)=true:=bne_iff_ne.mpr c27;by_cases c29:0≤Zh
       rotate_left
       ·rw[Yy c29] at H
        exact absurd H (by simp)
       as_aux_lemma=>
       rw[Yx c29] at H;have c29b0:decide (0≤Zh)=true:=Yv c29;clear c29;by_cases c30:Zh<(l0.length:Int)
       rotate_left
       ·rw[Yy c30] at H
        exact absurd H (by simp)
       as_aux_lemma=>
       rw[Yx c30] at H;have c30b0:decide (Zh<(l0.length:Int))=true:=Yv c30;clear c30;by_cases c31:Xj.length<5864062014805
       rotate_left
       ·rw[Yy c31] at H
        exact absurd H (by simp)
       as_aux_lemma=>
       rw[Yx c31] at H;have LMc31:=Ya c31;clear c31;obtain⟨y229,hy229⟩: ∃ y_:List (S61),y_=(Xj ++ [(⟨(rd_T61 l0 Zh).f0,(rd_T61 l0 Zh).f1,t225⟩:S61)]):=⟨_,rfl⟩;rw[Option.bind_some, ← hy229] at H;have Ny229:=Ya hy229;clear hy229;have H':=Ya H;clear H;obtain⟨Ao32,co32,eo32⟩:=Kd.R_slice HO_8.out;subst eo32;try go_wp2_with (first|((with_reducible refine gate_callee (f:=56) rfl ?_);refine goesL_ (some 94) rfl rfl Try.func56 (by kernel_rfl) rfl #[.slice Ao32 x8_3.length co32] rfl (by(try simp only[List.map_toArray,List.map_cons,List.map_nil]);first|done|rfl|(simp only[List.length_drop,List.length_take];rfl)) ?_;(with_reducible refine(ebbtideref01_Sum.calls k3 _ _ x8_3 t225 true _ ?side1 ?side2 A25.out).mono ?_);(case side1=>repeat(first|exact(Kd.R_reads' HO_8.out).2.2|(with_reducible refine Kd.C_alloc ?_ _)|(with_reducible refine Kd.C_drewN ?_ _)|(with_reducible refine Kd.C_drew ?_)));(case side2=>exact(Kd.R_reads' HO_8.out).2.1);rintro e w' ⟨rfl,⟨nd,rfl⟩⟩;refine⟨_,rfl,?_⟩))
       (try (rw[drewN_self wr];generalize hq_:World.drewN wr _=wr;replace HO_4:Aside0 (Kd.R k61 61 wr w.heap.size (fun _=>True) u4 Xj):=⟨by rw[← hq_];exact(kR HO_4)⟩;replace HO_8:Aside0 (Kd.R (Kd.int .i64) 3 wr w.heap.size (fun _=>True) (.slice Ao32 x8_3.length co32) x8_3):=⟨by rw[← hq_];exact(kR HO_8)⟩;replace HB:Aside0 (Below w.heap.size w wr):=⟨by rw[← hq_];exact bl⟩;clear hq_))
       have n0_:=Ya (Yp HO_4.out);have n1_:=Ya (Yp HO_8.out);have n2_:=Ya (Yg HB.out);clear HO_4;clear HO_8;clear HB;have HO_4:=n0_;have HO_8:=n1_;have HB:=n2_;clear n0_ n1_ n2_;have p227:0≤(Zh:Int):=Yu (by first|(with_reducible assumption)|assumption);have q227:Zh<(l0.length:Int):=Yu (by first|(with_reducible assumption)|assumption);obtain⟨ad227,e227,hx227_0,hx227_1,hx227_2⟩:=at_T61 HR0.out Zh p227 q227;have hw227_2:=hx227_2;have hw227_1:=hx227_1;have hw227_0:=hx227_0;cases e227;replace hx227_0:=(HB.out.cell (Yb w _ hx227_0)).trans hx227_0;replace hx227_1:=(HB.out.cell (Yb w _ hx227_1)).trans hx227_1;replace hx227_2:=(HB.out.cell (Yb w _ hx227_2)).trans hx227_2;replace p227:=eq_true p227;replace q227:=eq_true q227;have p228:0≤(Zh:Int):=Yu (by first|(with_reducible assumption)|assumption);have q228:Zh<(l0.length:Int):=Yu (by first|(with_reducible assumption)|assumption);obtain⟨ad228,e228,hx228_0,hx228_1,hx228_2⟩:=at_T61 HR0.out Zh p228 q228;have hw228_2:=hx228_2;have hw228_1:=hx228_1;have hw228_0:=hx228_0;obtain rfl:ad227=ad228:=(by injection e228);replace hx228_0:=(HB.out.cell (Yb w _ hx228_0)).trans hx228_0;replace hx228_1:=(HB.out.cell (Yb w _ hx228_1)).trans hx228_1;replace hx228_2:=(HB.out.cell (Yb w _ hx228_2)).trans hx228_2;replace p228:=eq_true p228;replace q228:=eq_true q228;refine start_ (n:=16) (S:=fun w'=>w'.cell? (ad227.add ((Zh).toNat * 3))=some (.int .i64 ((rd_T61 l0 Zh).f0))∧w'.cell? ⟨(ad227.add ((Zh).toNat * 3)).block,(ad227.add ((Zh).toNat * 3)).off+1,none⟩=some (.int .i64 ((rd_T61 l0 Zh).f1))∧w'.cell? ⟨(ad227.add ((Zh).toNat * 3)).block,(ad227.add ((Zh).toNat * 3)).off+2,none⟩=some (.int .i64 ((rd_T61 l0 Zh).f2))∧w'.cell? (ad227.add ((Zh).toNat * 3))=some (.int .i64 ((rd_T61 l0 Zh).f0))∧w'.cell? ⟨(ad227.add ((Zh).toNat * 3)).block,(ad227.add ((Zh).toNat * 3)).off+1,none⟩=some (.int .i64 ((rd_T61 l0 Zh).f1))∧w'.cell? ⟨(ad227.add ((Zh).toNat * 3)).block,(ad227.add ((Zh).toNat * 3)).off+2,none⟩=some (.int .i64 ((rd_T61 l0 Zh).f2))) (ds:=[]) #[false,false,false,false,false,false,false,false,false,false,false,false,false,false,false,false] (by kernel_rfl) rfl rfl ⟨((HB.out.cell (Yb w _ hw227_0)).trans hw227_0),((HB.out.cell (Yb w _ hw227_1)).trans hw227_1),((HB.out.cell (Yb w _ hw227_2)).trans hw227_2),((HB.out.cell (Yb w _ hw228_0)).trans hw228_0),((HB.out.cell (Yb w _ hw228_1)).trans hw228_1),((HB.out.cell (Yb w _ hw228_2)).trans hw228_2)⟩ (fun hHeld=> ?_);refine with_tabW ebbtideref03_Moves.tab21 ebbtideref03_Moves.bits21 (fun HT_ HW_=> ?_);generalize wr.drew=w33 at HO_4 HO_8 HB hx227_0 hx227_1 hx227_2 hx228_0 hx228_1 hx228_2 hHeld ⊢;refine pure_ (i:=0) (N:=some 101) (v:= ?_) (a':= ?_) #[true,false,false,false,false,false,false,false,false,false,false,false,false,false,false,false] rfl rfl (any_of HT_.out (by kernel_rfl)) (fun _ _ _ h=>h) (Or.inl ⟨by rfl,?_⟩) ?_ ?_
       rotate_left
       ·intro w'
        go_simp
        with_reducible rfl
       rotate_left
       ·simp only[Act.put,List.setIfInBounds_toArray,List.set_cons_zero,List.set_cons_succ,i64_w,i32_w]
        rfl
       refine pure_ (i:=1) (N:=some 102) (v:= ?_) (a':= ?_) #[true,true,false,false,false,false,false,false,false,false,false,false,false,false,false,false] rfl rfl (any_of HT_.out (by kernel_rfl)) (fun _ _ _ h=>h) (Or.inl ⟨by rfl,?_⟩) ?_ ?_
       rotate_left
       ·intro w'
        go_simp
        with_reducible rfl
       rotate_left
       ·simp only[Act.put,List.setIfInBounds_toArray,List.set_cons_zero,List.set_cons_succ,i64_w,i32_w]
        rfl
       refine pure_ (i:=2) (N:=some 103) (v:= ?_) (a':= ?_) #[true,true,true,false,false,false,false,false,false,false,false,false,false,false,false,false] rfl rfl (any_of HT_.out (by kernel_rfl)) (fun _ _ _ h=>h) (Or.inl ⟨by rfl,?_⟩) ?_ ?_
       rotate_left
       ·intro w'
        go_simp
        with_reducible rfl
       rotate_left
       ·simp only[Act.put,List.setIfInBounds_toArray,List.set_cons_zero,List.set_cons_succ,i64_w,i32_w]
        rfl
       refine pure_ (i:=3) (N:=some 104) (v:= ?_) (a':= ?_) #[true,true,true,true,false,false,false,false,false,false,false,false,false,false,false,false] rfl rfl (any_of HT_.out (by kernel_rfl)) (fun _ _ _ h=>h) (Or.inl ⟨by rfl,?_⟩) ?_ ?_
       rotate_left
       ·intro w'
        go_simp
        with_reducible rfl
       rotate_left
       ·simp only[Act.put,List.setIfInBounds_toArray,List.set_cons_zero,List.set_cons_succ,i64_w,i32_w]
        rfl
       refine pure_ (i:=4) (N:=some 105) (v:= ?_) (a':= ?_) #[true,true,true,true,true,false,false,false,false,false,false,false,false,false,false,false] rfl rfl (any_of HT_.out (by kernel_rfl)) (fun _ _ _ h=>h) (Or.inl ⟨by rfl,?_⟩) ?_ ?_
       rotate_left
       ·intro w'
        go_simp
        with_reducible rfl
       rotate_left
       ·simp only[Act.put,List.setIfInBounds_toArray,List.set_cons_zero,List.set_cons_succ,i64_w,i32_w]
        rfl
       refine pure_ (i:=6) (N:=some 107) (v:= ?_) (a':= ?_) #[true,true,true,true,true,false,true,false,false,false,false,false,false,false,false,false] rfl rfl (any_of HT_.out (by kernel_rfl)) (fun _ _ _ h=>h) (Or.inl ⟨by rfl,?_⟩) ?_ ?_
       rotate_left
       ·intro w'
        go_simp
        with_reducible rfl
       rotate_left
       ·simp only[Act.put,List.setIfInBounds_toArray,List.set_cons_zero,List.set_cons_succ,i64_w,i32_w]
        rfl
       refine pure_ (i:=7) (N:=some 108) (v:= ?_) (a':= ?_) #[true,true,true,true,true,false,true,true,false,false,false,false,false,false,false,false] rfl rfl (any_of HT_.out (by kernel_rfl)) (fun _ _ _ h=>h) (Or.inl ⟨by rfl,?_⟩) ?_ ?_
       rotate_left
       ·intro w'
        go_simp
        with_reducible rfl
       rotate_left
       ·simp only[Act.put,List.setIfInBounds_toArray,List.set_cons_zero,List.set_cons_succ,i64_w,i32_w]
        rfl
       refine pure_ (i:=8) (N:=some 109) (v:= ?_) (a':= ?_) #[true,true,true,true,true,false,true,true,true,false,false,false,false,false,false,false] rfl rfl (any_of HT_.out (by kernel_rfl)) (fun _ _ _ h=>h) (Or.inl ⟨by rfl,?_⟩) ?_ ?_
       rotate_left
       ·intro w'
        go_simp
        with_reducible rfl
       rotate_left
       ·simp only[Act.put,List.setIfInBounds_toArray,List.set_cons_zero,List.set_cons_succ,i64_w,i32_w]
        rfl
       refine pure_ (i:=9) (N:=some 110) (v:= ?_) (a':= ?_) #[true,true,true,true,true,false,true,true,true,true,false,false,false,false,false,false] rfl rfl (any_of HT_.out (by kernel_rfl)) (fun _ _ _ h=>h) (Or.inl ⟨by rfl,?_⟩) ?_ ?_
       rotate_left
       ·intro w'
        go_simp
        with_reducible rfl
       rotate_left
       ·simp only[Act.put,List.setIfInBounds_toArray,List.set_cons_zero,List.set_cons_succ,i64_w,i32_w]
        rfl
       refine pure_ (i:=11) (N:=some 112) (v:= ?_) (a':= ?_) #[true,true,true,true,true,false,true,true,true,true,false,true,false,false,false,false] rfl rfl (any_of HT_.out (by kernel_rfl)) (fun _ _ _ h=>h) (Or.inl ⟨by rfl,?_⟩) ?_ ?_
       rotate_left
       ·intro w'
        go_simp
        with_reducible rfl
       rotate_left
       ·simp only[Act.put,List.setIfInBounds_toArray,List.set_cons_zero,List.set_cons_succ,i64_w,i32_w]
        rfl
       refine take_ (i:=5) (N:=some 106) (v:= ?_) (a':= ?_) #[true,true,true,true,true,true,true,true,true,true,false,true,false,false,false,false] rfl rfl (take_ofW HT_.out HW_.out (by kernel_rfl)) (fun _ _ _ h=>h) (Or.inl ⟨by rfl,?_⟩) hHeld ?_ ?_
       rotate_left
       ·rintro w' ⟨s0,s1,s2,s3,s4,s5⟩
        go_simp
        with_reducible rfl
       rotate_left
       ·simp only[Act.put,List.setIfInBounds_toArray,List.set_cons_zero,List.set_cons_succ,i64_w,i32_w]
        rfl
       refine take_ (i:=10) (N:=some 111) (v:= ?_) (a':= ?_) #[true,true,true,true,true,true,true,true,true,true,true,true,false,false,false,false] rfl rfl (take_ofW HT_.out HW_.out (by kernel_rfl)) (fun _ _ _ h=>h) (Or.inl ⟨by rfl,?_⟩) hHeld ?_ ?_
       rotate_left
       ·rintro w' ⟨s0,s1,s2,s3,s4,s5⟩
        go_simp
        with_reducible rfl
       rotate_left
       ·simp only[Act.put,List.setIfInBounds_toArray,List.set_cons_zero,List.set_cons_succ,i64_w,i32_w]
        rfl
       refine pure_ (i:=12) (N:=some 113) (v:= ?_) (a':= ?_) #[true,true,true,true,true,true,true,true,true,true,true,true,true,false,false,false] rfl rfl (any_of HT_.out (by kernel_rfl)) (fun _ _ _ h=>h) (Or.inl ⟨by rfl,?_⟩) ?_ ?_
       rotate_left
       ·intro w'
        go_simp
        with_reducible rfl
       rotate_left
       ·simp only[Act.put,List.setIfInBounds_toArray,List.set_cons_zero,List.set_cons_succ,i64_w,i32_w]
        rfl
       refine one_ (i:=13) (N:=some 114) #[true,true,true,true,true,true,true,true,true,true,true,true,true,true,false,false] rfl rfl (one_of HT_.out (by kernel_rfl)) (by decide) (fun K hK=> ?_);refine value_ (w1:= ?_) (v:= ?_) (by rfl) rfl ?_ ?_
       rotate_left 2
       ·go_simp
        constructor
        ·rfl
        ·rfl
       refine hK.out _ _ ⟨(World.cell?_alloc_lt _ _ _ (Yb _ _ (((HB.out.cell (Yb w _ hw227_0)).trans hw227_0)))).trans (((HB.out.cell (Yb w _ hw227_0)).trans hw227_0)),(World.cell?_alloc_lt _ _ _ (Yb _ _ (((HB.out.cell (Yb w _ hw227_1)).trans hw227_1)))).trans (((HB.out.cell (Yb w _ hw227_1)).trans hw227_1)),(World.cell?_alloc_lt _ _ _ (Yb _ _ (((HB.out.cell (Yb w _ hw227_2)).trans hw227_2)))).trans (((HB.out.cell (Yb w _ hw227_2)).trans hw227_2)),(World.cell?_alloc_lt _ _ _ (Yb _ _ (((HB.out.cell (Yb w _ hw228_0)).trans hw228_0)))).trans (((HB.out.cell (Yb w _ hw228_0)).trans hw228_0)),(World.cell?_alloc_lt _ _ _ (Yb _ _ (((HB.out.cell (Yb w _ hw228_1)).trans hw228_1)))).trans (((HB.out.cell (Yb w _ hw228_1)).trans hw228_1)),(World.cell?_alloc_lt _ _ _ (Yb _ _ (((HB.out.cell (Yb w _ hw228_2)).trans hw228_2)))).trans (((HB.out.cell (Yb w _ hw228_2)).trans hw228_2))⟩ (fun hHeld=> ?_);clear hK K;refine norm_ (a':= ?_) ?_ ?_
       rotate_left
       ·show Act.put _ (some 114) _=_
        simp only[Act.put,List.setIfInBounds_toArray,List.set_cons_zero,List.set_cons_succ,i64_w,i32_w];rfl
       refine one_ (i:=14) (N:=some 115) #[true,true,true,true,true,true,true,true,true,true,true,true,true,true,true,false] rfl rfl (one_of HT_.out (by kernel_rfl)) (by decide) (fun K hK=> ?_);refine Kd.R_append_step k61 (w0:=w) w.heap.size (by rfl) (.tmp 101) (.tmp 114) 33 61 (.agg #[(.int .i64 0),(.int .i64 0),(.int .i64 0)]) 24 rfl Try.underlying33 info61 rfl (by decide) (by omega) u4 Xj (⟨(rd_T61 l0 Zh).f0,(rd_T61 l0 Zh).f1,t225⟩:S61) [.int .i64 ((rd_T61 l0 Zh).f0), .int .i64 ((rd_T61 l0 Zh).f1), .int .i64 t225] (fun _=>True) (fun _=>False) rfl rfl ?aP (fun _ hk=>hk.elim) ?aF ?aO ?aB ?aS ?aL ?_
       (case aP=>exact k61_mkM _ _ _ (⟨(rd_T61 l0 Zh).f0,(rd_T61 l0 Zh).f1,t225⟩:S61))
       (case aB=>exact(by repeat(first|(with_reducible first|exact HB.out|apply Ye|apply Yd|apply Yg)|exact HB.out)))
       (case aF=>exact(fun _ _=>trivial))
       (case aO=>exact(by(with_reducible repeat(first|apply Yr|apply Yq|apply Yp));exact HO_4.out))
       (case aS=>exact(Yi (by repeat(first|(with_reducible first|exact HB.out|apply Ye|apply Yd|apply Yg)|exact HB.out))))
       (case aL=>have:=LMc31.out;omega)
       intro v230 w34 ho hb hg hat
       rw[← Ny229.out] at ho;have n0_:=Ya (Kd.R_over' (by(with_reducible repeat(first|apply Yr|apply Yq|apply Yp));exact HO_8.out) (Kd.R_typed (by(with_reducible repeat(first|apply Yr|apply Yq|apply Yp));exact HO_4.out)) (by decide) hg);have n1_:=Ya (hb);have n2_:=Ya (ho);clear HO_8;clear HB;clear HO_4;have HO_8:=n0_;have HB:=n1_;have HO231:=n2_;clear n0_ n1_ n2_;clear ho hb hg hat
       refine hK.out _ _ ⟨(hc HB hw227_0),(hc HB hw227_1),(hc HB hw227_2),(hc HB hw228_0),(hc HB hw228_1),(hc HB hw228_2)⟩ (fun hHeld=> ?_);clear hK K;refine nm ?_;refine pu 15 4 (bm 16 65535) ?_;refine done_ (done_of HT_.out (by kernel_rfl)) ?_;obtain⟨Ao35,co35,eo35⟩:=Kd.R_slice HO231.out;subst eo35;try go_wp2
       go_loopg [12] k3 (fun kq v12 w'=> ∃ (Zi:List (S61)) (Ze:Int),v12= .int .i64 Ze∧Aside0 (ebbtideref03_Moves.l3 kq l0 Zi Zh Ze=some (r1,r2))∧Aside0 (kq≤k3)∧Aside0 (Kd.R k61 61 w' w.heap.size (fun _=>True) (.slice Ao35 y229.length co35) Zi)∧Aside0 (Below w.heap.size w w'))
       case atStart=>exact⟨(y229),(wrap64 ((y229.length:Int) - 1)),(by first|rfl|(simp;done)|(simp[*];done)),H',⟨Nat.le_refl _⟩,⟨HO231.out⟩,⟨HB.out⟩⟩
       case round=>
        clear H';try clear c2
        try clear c3
        try clear c5
        try clear c14
        try clear c14b0
        try clear c15
        try clear c16
        try clear c17
        try clear c18
        try clear c18b0
        try clear c18b1
        try clear c26
        try clear c27
        try clear c27b0
        try clear c27b1
        try clear c29
        try clear c29b0
        try clear c30
        try clear c30b0
        try clear c31
        try clear Vg
        try clear Vh
        try clear Vi
        try clear Vj
        try clear Vk
        try clear Vl
        try clear hx227_0
        try clear hx227_1
        try clear hx227_2
        try clear hx228_0
        try clear hx228_1
        try clear hx228_2
        try clear p217
        try clear p218
        try clear p227
        try clear p228
        try clear q217
        try clear q218
        try clear q227
        try clear q228
        obtain⟨Zi,Ze,rfl,HA,HK4,HO_4,HB⟩:=hrel;have hl4_4:=(Kd.R_reads' HO_4.out).1;rw[hl4_4] at HO_4
        (try simp only[hl4_4])
        cases gk with
        |zero=>exact absurd HA.out (by simp[ebbtideref03_Moves.l3])
        |succ k4=>
         have H:=HA.out;clear HA;simp only[ebbtideref03_Moves.l3] at H;by_cases c36:Ze>0
         rotate_left
         ·as_aux_lemma=>
          rw[Yy c36] at H;have c36b0:decide (0<Ze)=false:=Yw c36;clear c36;have H':=Ya H;clear H;try go_wp2
          replace HO_4:=Ya (Yp HO_4.out);replace HB:=Ya (Yg HB.out);refine start_ (n:=44) (S:=fun w'=>True) (ds:=[]) #[false,false,false,false,false,false,false,false,false,false,false,false,false,false,false,false,false,false,false,false,false,false,false,false,false,false,false,false,false,false,false,false,false,false,false,false,false,false,false,false,false,false,false,false] (by kernel_rfl) rfl rfl trivial (fun hHeld=> ?_);refine with_tabW ebbtideref03_Moves.tab23 ebbtideref03_Moves.bits23 (fun HT_ HW_=> ?_);generalize wr.drew=w59 at HO_4 HB hHeld ⊢;refine pu 0 119 (bm 44 1) ?_;refine pu 1 120 (bm 44 3) ?_;refine pu 2 121 (bm 44 7) ?_;refine pure_ (i:=3) (N:=some 122) (v:=undef) (a':= ?_) #[true,true,true,true,false,false,false,false,false,false,false,false,false,false,false,false,false,false,false,false,false,false,false,false,false,false,false,false,false,false,false,false,false,false,false,false,false,false,false,false,false,false,false,false] rfl rfl (any_of HT_.out (by kernel_rfl)) (fun _ _ _ h=>h) (Or.inr ⟨by rfl,rfl⟩) ?_ ?_
          rotate_left
          ·simp only[Act.put,List.setIfInBounds_toArray,List.set_cons_zero,List.set_cons_succ,i64_w,i32_w]
           rfl
          refine pure_ (i:=4) (N:=some 123) (v:=undef) (a':= ?_) #[true,true,true,true,true,false,false,false,false,false,false,false,false,false,false,false,false,false,false,false,false,false,false,false,false,false,false,false,false,false,false,false,false,false,false,false,false,false,false,false,false,false,false,false] rfl rfl (any_of HT_.out (by kernel_rfl)) (fun _ _ _ h=>h) (Or.inr ⟨by rfl,rfl⟩) ?_ ?_
          rotate_left
          ·simp only[Act.put,List.setIfInBounds_toArray,List.set_cons_zero,List.set_cons_succ,i64_w,i32_w]
           rfl
          refine pure_ (i:=5) (N:=some 124) (v:=undef) (a':= ?_) #[true,true,true,true,true,true,false,false,false,false,false,false,false,false,false,false,false,false,false,false,false,false,false,false,false,false,false,false,false,false,false,false,false,false,false,false,false,false,false,false,false,false,false,false] rfl rfl (any_of HT_.out (by kernel_rfl)) (fun _ _ _ h=>h) (Or.inr ⟨by rfl,rfl⟩) ?_ ?_
          rotate_left
          ·simp only[Act.put,List.setIfInBounds_toArray,List.set_cons_zero,List.set_cons_succ,i64_w,i32_w]
           rfl
          refine pure_ (i:=6) (N:=some 125) (v:=undef) (a':= ?_) #[true,true,true,true,true,true,true,false,false,false,false,false,false,false,false,false,false,false,false,false,false,false,false,false,false,false,false,false,false,false,false,false,false,false,false,false,false,false,false,false,false,false,false,false] rfl rfl (any_of HT_.out (by kernel_rfl)) (fun _ _ _ h=>h) (Or.inr ⟨by rfl,rfl⟩) ?_ ?_
          rotate_left
          ·simp only[Act.put,List.setIfInBounds_toArray,List.set_cons_zero,List.set_cons_succ,i64_w,i32_w]
           rfl
          refine pure_ (i:=7) (N:=some 126) (v:=undef) (a':= ?_) #[true,true,true,true,true,true,true,true,false,false,false,false,false,false,false,false,false,false,false,false,false,false,false,false,false,false,false,false,false,false,false,false,false,false,false,false,false,false,false,false,false,false,false,false] rfl rfl (any_of HT_.out (by kernel_rfl)) (fun _ _ _ h=>h) (Or.inr ⟨by rfl,rfl⟩) ?_ ?_
          rotate_left
          ·simp only[Act.put,List.setIfInBounds_toArray,List.set_cons_zero,List.set_cons_succ,i64_w,i32_w]
           rfl
          refine pure_ (i:=8) (N:=some 127) (v:=undef) (a':= ?_) #[true,true,true,true,true,true,true,true,true,false,false,false,false,false,false,false,false,false,false,false,false,false,false,false,false,false,false,false,false,false,false,false,false,false,false,false,false,false,false,false,false,false,false,false] rfl rfl (any_of HT_.out (by kernel_rfl)) (fun _ _ _ h=>h) (Or.inr ⟨by rfl,rfl⟩) ?_ ?_
          rotate_left
          ·simp only[Act.put,List.setIfInBounds_toArray,List.set_cons_zero,List.set_cons_succ,i64_w,i32_w]
           rfl
          refine pure_ (i:=9) (N:=some 128) (v:=undef) (a':= ?_) #[true,true,true,true,true,true,true,true,true,true,false,false,false,false,false,false,false,false,false,false,false,false,false,false,false,false,false,false,false,false,false,false,false,false,false,false,false,false,false,false,false,false,false,false] rfl rfl (any_of HT_.out (by kernel_rfl)) (fun _ _ _ h=>h) (Or.inr ⟨by rfl,rfl⟩) ?_ ?_
          rotate_left
          ·simp only[Act.put,List.setIfInBounds_toArray,List.set_cons_zero,List.set_cons_succ,i64_w,i32_w]
           rfl
          refine pure_ (i:=10) (N:=some 129) (v:=undef) (a':= ?_) #[true,true,true,true,true,true,true,true,true,true,true,false,false,false,false,false,false,false,false,false,false,false,false,false,false,false,false,false,false,false,false,false,false,false,false,false,false,false,false,false,false,false,false,false] rfl rfl (any_of HT_.out (by kernel_rfl)) (fun _ _ _ h=>h) (Or.inr ⟨by rfl,rfl⟩) ?_ ?_
          rotate_left
          ·simp only[Act.put,List.setIfInBounds_toArray,List.set_cons_zero,List.set_cons_succ,i64_w,i32_w]
           rfl
          refine pure_ (i:=11) (N:=some 130) (v:=undef) (a':= ?_) #[true,true,true,true,true,true,true,true,true,true,true,true,false,false,false,false,false,false,false,false,false,false,false,false,false,false,false,false,false,false,false,false,false,false,false,false,false,false,false,false,false,false,false,false] rfl rfl (any_of HT_.out (by kernel_rfl)) (fun _ _ _ h=>h) (Or.inr ⟨by rfl,rfl⟩) ?_ ?_
          rotate_left
          ·simp only[Act.put,List.setIfInBounds_toArray,List.set_cons_zero,List.set_cons_succ,i64_w,i32_w]
           rfl
          refine pure_ (i:=12) (N:=some 131) (v:=undef) (a':= ?_) #[true,true,true,true,true,true,true,true,true,true,true,true,true,false,false,false,false,false,false,false,false,false,false,false,false,false,false,false,false,false,false,false,false,false,false,false,false,false,false,false,false,false,false,false] rfl rfl (any_of HT_.out (by kernel_rfl)) (fun _ _ _ h=>h) (Or.inr ⟨by rfl,rfl⟩) ?_ ?_
          rotate_left
          ·simp only[Act.put,List.setIfInBounds_toArray,List.set_cons_zero,List.set_cons_succ,i64_w,i32_w]
           rfl
          refine pure_ (i:=13) (N:=some 132) (v:=undef) (a':= ?_) #[true,true,true,true,true,true,true,true,true,true,true,true,true,true,false,false,false,false,false,false,false,false,false,false,false,false,false,false,false,false,false,false,false,false,false,false,false,false,false,false,false,false,false,false] rfl rfl (any_of HT_.out (by kernel_rfl)) (fun _ _ _ h=>h) (Or.inr ⟨by rfl,rfl⟩) ?_ ?_
          rotate_left
          ·simp only[Act.put,List.setIfInBounds_toArray,List.set_cons_zero,List.set_cons_succ,i64_w,i32_w]
           rfl
          refine pure_ (i:=14) (N:=some 133) (v:=undef) (a':= ?_) #[true,true,true,true,true,true,true,true,true,true,true,true,true,true,true,false,false,false,false,false,false,false,false,false,false,false,false,false,false,false,false,false,false,false,false,false,false,false,false,false,false,false,false,false] rfl rfl (any_of HT_.out (by kernel_rfl)) (fun _ _ _ h=>h) (Or.inr ⟨by rfl,rfl⟩) ?_ ?_
          rotate_left
          ·simp only[Act.put,List.setIfInBounds_toArray,List.set_cons_zero,List.set_cons_succ,i64_w,i32_w]
           rfl
          refine pure_ (i:=15) (N:=some 134) (v:=undef) (a':= ?_) #[true,true,true,true,true,true,true,true,true,true,true,true,true,true,true,true,false,false,false,false,false,false,false,false,false,false,false,false,false,false,false,false,false,false,false,false,false,false,false,false,false,false,false,false] rfl rfl (any_of HT_.out (by kernel_rfl)) (fun _ _ _ h=>h) (Or.inr ⟨by rfl,rfl⟩) ?_ ?_
          rotate_left
          ·simp only[Act.put,List.setIfInBounds_toArray,List.set_cons_zero,List.set_cons_succ,i64_w,i32_w]
           rfl
          refine pure_ (i:=16) (N:=some 135) (v:=undef) (a':= ?_) #[true,true,true,true,true,true,true,true,true,true,true,true,true,true,true,true,true,false,false,false,false,false,false,false,false,false,false,false,false,false,false,false,false,false,false,false,false,false,false,false,false,false,false,false] rfl rfl (any_of HT_.out (by kernel_rfl)) (fun _ _ _ h=>h) (Or.inr ⟨by rfl,rfl⟩) ?_ ?_
          rotate_left
          ·simp only[Act.put,List.setIfInBounds_toArray,List.set_cons_zero,List.set_cons_succ,i64_w,i32_w]
           rfl
          refine pure_ (i:=17) (N:=some 136) (v:=undef) (a':= ?_) #[true,true,true,true,true,true,true,true,true,true,true,true,true,true,true,true,true,true,false,false,false,false,false,false,false,false,false,false,false,false,false,false,false,false,false,false,false,false,false,false,false,false,false,false] rfl rfl (any_of HT_.out (by kernel_rfl)) (fun _ _ _ h=>h) (Or.inr ⟨by rfl,rfl⟩) ?_ ?_
          rotate_left
          ·simp only[Act.put,List.setIfInBounds_toArray,List.set_cons_zero,List.set_cons_succ,i64_w,i32_w]
           rfl
          refine pure_ (i:=18) (N:=some 137) (v:=undef) (a':= ?_) #[true,true,true,true,true,true,true,true,true,true,true,true,true,true,true,true,true,true,true,false,false,false,false,false,false,false,false,false,false,false,false,false,false,false,false,false,false,false,false,false,false,false,false,false] rfl rfl (any_of HT_.out (by kernel_rfl)) (fun _ _ _ h=>h) (Or.inr ⟨by rfl,rfl⟩) ?_ ?_
          rotate_left
          ·simp only[Act.put,List.setIfInBounds_toArray,List.set_cons_zero,List.set_cons_succ,i64_w,i32_w]
           rfl
          refine pure_ (i:=19) (N:=some 138) (v:=undef) (a':= ?_) #[true,true,true,true,true,true,true,true,true,true,true,true,true,true,true,true,true,true,true,true,false,false,false,false,false,false,false,false,false,false,false,false,false,false,false,false,false,false,false,false,false,false,false,false] rfl rfl (any_of HT_.out (by kernel_rfl)) (fun _ _ _ h=>h) (Or.inr ⟨by rfl,rfl⟩) ?_ ?_
          rotate_left
          ·simp only[Act.put,List.setIfInBounds_toArray,List.set_cons_zero,List.set_cons_succ,i64_w,i32_w]
           rfl
          refine pure_ (i:=20) (N:=some 139) (v:=undef) (a':= ?_) #[true,true,true,true,true,true,true,true,true,true,true,true,true,true,true,true,true,true,true,true,true,false,false,false,false,false,false,false,false,false,false,false,false,false,false,false,false,false,false,false,false,false,false,false] rfl rfl (any_of HT_.out (by kernel_rfl)) (fun _ _ _ h=>h) (Or.inr ⟨by rfl,rfl⟩) ?_ ?_
          rotate_left
          ·simp only[Act.put,List.setIfInBounds_toArray,List.set_cons_zero,List.set_cons_succ,i64_w,i32_w]
           rfl
          refine pure_ (i:=21) (N:=some 140) (v:=undef) (a':= ?_) #[true,true,true,true,true,true,true,true,true,true,true,true,true,true,true,true,true,true,true,true,true,true,false,false,false,false,false,false,false,false,false,false,false,false,false,false,false,false,false,false,false,false,false,false] rfl rfl (any_of HT_.out (by kernel_rfl)) (fun _ _ _ h=>h) (Or.inr ⟨by rfl,rfl⟩) ?_ ?_
          rotate_left
          ·simp only[Act.put,List.setIfInBounds_toArray,List.set_cons_zero,List.set_cons_succ,i64_w,i32_w]
           rfl
          refine pure_ (i:=22) (N:=some 141) (v:=undef) (a':= ?_) #[true,true,true,true,true,true,true,true,true,true,true,true,true,true,true,true,true,true,true,true,true,true,true,false,false,false,false,false,false,false,false,false,false,false,false,false,false,false,false,false,false,false,false,false] rfl rfl (any_of HT_.out (by kernel_rfl)) (fun _ _ _ h=>h) (Or.inr ⟨by rfl,rfl⟩) ?_ ?_
          rotate_left
          ·simp only[Act.put,List.setIfInBounds_toArray,List.set_cons_zero,List.set_cons_succ,i64_w,i32_w]
           rfl
          refine pure_ (i:=23) (N:=some 142) (v:=undef) (a':= ?_) #[true,true,true,true,true,true,true,true,true,true,true,true,true,true,true,true,true,true,true,true,true,true,true,true,false,false,false,false,false,false,false,false,false,false,false,false,false,false,false,false,false,false,false,false] rfl rfl (any_of HT_.out (by kernel_rfl)) (fun _ _ _ h=>h) (Or.inr ⟨by rfl,rfl⟩) ?_ ?_
          rotate_left
          ·simp only[Act.put,List.setIfInBounds_toArray,List.set_cons_zero,List.set_cons_succ,i64_w,i32_w]
           rfl
          refine pure_ (i:=24) (N:=some 143) (v:=undef) (a':= ?_) #[true,true,true,true,true,true,true,true,true,true,true,true,true,true,true,true,true,true,true,true,true,true,true,true,true,false,false,false,false,false,false,false,false,false,false,false,false,false,false,false,false,false,false,false] rfl rfl (any_of HT_.out (by kernel_rfl)) (fun _ _ _ h=>h) (Or.inr ⟨by rfl,rfl⟩) ?_ ?_
          rotate_left
          ·simp only[Act.put,List.setIfInBounds_toArray,List.set_cons_zero,List.set_cons_succ,i64_w,i32_w]
           rfl
          refine pure_ (i:=25) (N:=some 144) (v:=undef) (a':= ?_) #[true,true,true,true,true,true,true,true,true,true,true,true,true,true,true,true,true,true,true,true,true,true,true,true,true,true,false,false,false,false,false,false,false,false,false,false,false,false,false,false,false,false,false,false] rfl rfl (any_of HT_.out (by kernel_rfl)) (fun _ _ _ h=>h) (Or.inr ⟨by rfl,rfl⟩) ?_ ?_
          rotate_left
          ·simp only[Act.put,List.setIfInBounds_toArray,List.set_cons_zero,List.set_cons_succ,i64_w,i32_w]
           rfl
          refine pure_ (i:=26) (N:=some 145) (v:=undef) (a':= ?_) #[true,true,true,true,true,true,true,true,true,true,true,true,true,true,true,true,true,true,true,true,true,true,true,true,true,true,true,false,false,false,false,false,false,false,false,false,false,false,false,false,false,false,false,false] rfl rfl (any_of HT_.out (by kernel_rfl)) (fun _ _ _ h=>h) (Or.inr ⟨by rfl,rfl⟩) ?_ ?_
          rotate_left
          ·simp only[Act.put,List.setIfInBounds_toArray,List.set_cons_zero,List.set_cons_succ,i64_w,i32_w]
           rfl
          refine pure_ (i:=27) (N:=some 146) (v:=undef) (a':= ?_) #[true,true,true,true,true,true,true,true,true,true,true,true,true,true,true,true,true,true,true,true,true,true,true,true,true,true,true,true,false,false,false,false,false,false,false,false,false,false,false,false,false,false,false,false] rfl rfl (any_of HT_.out (by kernel_rfl)) (fun _ _ _ h=>h) (Or.inr ⟨by rfl,rfl⟩) ?_ ?_
          rotate_left
          ·simp only[Act.put,List.setIfInBounds_toArray,List.set_cons_zero,List.set_cons_succ,i64_w,i32_w]
           rfl
          refine pure_ (i:=28) (N:=some 147) (v:=undef) (a':= ?_) #[true,true,true,true,true,true,true,true,true,true,true,true,true,true,true,true,true,true,true,true,true,true,true,true,true,true,true,true,true,false,false,false,false,false,false,false,false,false,false,false,false,false,false,false] rfl rfl (any_of HT_.out (by kernel_rfl)) (fun _ _ _ h=>h) (Or.inr ⟨by rfl,rfl⟩) ?_ ?_
          rotate_left
          ·simp only[Act.put,List.setIfInBounds_toArray,List.set_cons_zero,List.set_cons_succ,i64_w,i32_w]
           rfl
          refine pure_ (i:=29) (N:=some 148) (v:=undef) (a':= ?_) #[true,true,true,true,true,true,true,true,true,true,true,true,true,true,true,true,true,true,true,true,true,true,true,true,true,true,true,true,true,true,false,false,false,false,false,false,false,false,false,false,false,false,false,false] rfl rfl (any_of HT_.out (by kernel_rfl)) (fun _ _ _ h=>h) (Or.inr ⟨by rfl,rfl⟩) ?_ ?_
          rotate_left
          ·simp only[Act.put,List.setIfInBounds_toArray,List.set_cons_zero,List.set_cons_succ,i64_w,i32_w]
           rfl
          refine pure_ (i:=30) (N:=some 149) (v:=undef) (a':= ?_) #[true,true,true,true,true,true,true,true,true,true,true,true,true,true,true,true,true,true,true,true,true,true,true,true,true,true,true,true,true,true,true,false,false,false,false,false,false,false,false,false,false,false,false,false] rfl rfl (any_of HT_.out (by kernel_rfl)) (fun _ _ _ h=>h) (Or.inr ⟨by rfl,rfl⟩) ?_ ?_
          rotate_left
          ·simp only[Act.put,List.setIfInBounds_toArray,List.set_cons_zero,List.set_cons_succ,i64_w,i32_w]
           rfl
          refine pure_ (i:=31) (N:=some 150) (v:=undef) (a':= ?_) #[true,true,true,true,true,true,true,true,true,true,true,true,true,true,true,true,true,true,true,true,true,true,true,true,true,true,true,true,true,true,true,true,false,false,false,false,false,false,false,false,false,false,false,false] rfl rfl (any_of HT_.out (by kernel_rfl)) (fun _ _ _ h=>h) (Or.inr ⟨by rfl,rfl⟩) ?_ ?_
          rotate_left
          ·simp only[Act.put,List.setIfInBounds_toArray,List.set_cons_zero,List.set_cons_succ,i64_w,i32_w]
           rfl
          refine pure_ (i:=32) (N:=some 151) (v:=undef) (a':= ?_) #[true,true,true,true,true,true,true,true,true,true,true,true,true,true,true,true,true,true,true,true,true,true,true,true,true,true,true,true,true,true,true,true,true,false,false,false,false,false,false,false,false,false,false,false] rfl rfl (any_of HT_.out (by kernel_rfl)) (fun _ _ _ h=>h) (Or.inr ⟨by rfl,rfl⟩) ?_ ?_
          rotate_left
          ·simp only[Act.put,List.setIfInBounds_toArray,List.set_cons_zero,List.set_cons_succ,i64_w,i32_w]
           rfl
          refine pure_ (i:=33) (N:=some 152) (v:=undef) (a':= ?_) #[true,true,true,true,true,true,true,true,true,true,true,true,true,true,true,true,true,true,true,true,true,true,true,true,true,true,true,true,true,true,true,true,true,true,false,false,false,false,false,false,false,false,false,false] rfl rfl (any_of HT_.out (by kernel_rfl)) (fun _ _ _ h=>h) (Or.inr ⟨by rfl,rfl⟩) ?_ ?_
          rotate_left
          ·simp only[Act.put,List.setIfInBounds_toArray,List.set_cons_zero,List.set_cons_succ,i64_w,i32_w]
           rfl
          refine pure_ (i:=34) (N:=some 153) (v:=undef) (a':= ?_) #[true,true,true,true,true,true,true,true,true,true,true,true,true,true,true,true,true,true,true,true,true,true,true,true,true,true,true,true,true,true,true,true,true,true,true,false,false,false,false,false,false,false,false,false] rfl rfl (any_of HT_.out (by kernel_rfl)) (fun _ _ _ h=>h) (Or.inr ⟨by rfl,rfl⟩) ?_ ?_
          rotate_left
          ·simp only[Act.put,List.setIfInBounds_toArray,List.set_cons_zero,List.set_cons_succ,i64_w,i32_w]
           rfl
          refine pure_ (i:=35) (N:=some 154) (v:=undef) (a':= ?_) #[true,true,true,true,true,true,true,true,true,true,true,true,true,true,true,true,true,true,true,true,true,true,true,true,true,true,true,true,true,true,true,true,true,true,true,true,false,false,false,false,false,false,false,false] rfl rfl (any_of HT_.out (by kernel_rfl)) (fun _ _ _ h=>h) (Or.inr ⟨by rfl,rfl⟩) ?_ ?_
          rotate_left
          ·simp only[Act.put,List.setIfInBounds_toArray,List.set_cons_zero,List.set_cons_succ,i64_w,i32_w]
           rfl
          refine pure_ (i:=36) (N:=some 155) (v:=undef) (a':= ?_) #[true,true,true,true,true,true,true,true,true,true,true,true,true,true,true,true,true,true,true,true,true,true,true,true,true,true,true,true,true,true,true,true,true,true,true,true,true,false,false,false,false,false,false,false] rfl rfl (any_of HT_.out (by kernel_rfl)) (fun _ _ _ h=>h) (Or.inr ⟨by rfl,rfl⟩) ?_ ?_
          rotate_left
          ·simp only[Act.put,List.setIfInBounds_toArray,List.set_cons_zero,List.set_cons_succ,i64_w,i32_w]
           rfl
          refine pure_ (i:=37) (N:=some 156) (v:=undef) (a':= ?_) #[true,true,true,true,true,true,true,true,true,true,true,true,true,true,true,true,true,true,true,true,true,true,true,true,true,true,true,true,true,true,true,true,true,true,true,true,true,true,false,false,false,false,false,false] rfl rfl (any_of HT_.out (by kernel_rfl)) (fun _ _ _ h=>h) (Or.inr ⟨by rfl,rfl⟩) ?_ ?_
          rotate_left
          ·simp only[Act.put,List.setIfInBounds_toArray,List.set_cons_zero,List.set_cons_succ,i64_w,i32_w]
           rfl
          refine pure_ (i:=38) (N:=some 157) (v:=undef) (a':= ?_) #[true,true,true,true,true,true,true,true,true,true,true,true,true,true,true,true,true,true,true,true,true,true,true,true,true,true,true,true,true,true,true,true,true,true,true,true,true,true,true,false,false,false,false,false] rfl rfl (any_of HT_.out (by kernel_rfl)) (fun _ _ _ h=>h) (Or.inr ⟨by rfl,rfl⟩) ?_ ?_
          rotate_left
          ·simp only[Act.put,List.setIfInBounds_toArray,List.set_cons_zero,List.set_cons_succ,i64_w,i32_w]
           rfl
          refine pure_ (i:=39) (N:=some 158) (v:=undef) (a':= ?_) #[true,true,true,true,true,true,true,true,true,true,true,true,true,true,true,true,true,true,true,true,true,true,true,true,true,true,true,true,true,true,true,true,true,true,true,true,true,true,true,true,false,false,false,false] rfl rfl (any_of HT_.out (by kernel_rfl)) (fun _ _ _ h=>h) (Or.inr ⟨by rfl,rfl⟩) ?_ ?_
          rotate_left
          ·simp only[Act.put,List.setIfInBounds_toArray,List.set_cons_zero,List.set_cons_succ,i64_w,i32_w]
           rfl
          refine pure_ (i:=40) (N:=some 159) (v:=undef) (a':= ?_) #[true,true,true,true,true,true,true,true,true,true,true,true,true,true,true,true,true,true,true,true,true,true,true,true,true,true,true,true,true,true,true,true,true,true,true,true,true,true,true,true,true,false,false,false] rfl rfl (any_of HT_.out (by kernel_rfl)) (fun _ _ _ h=>h) (Or.inr ⟨by rfl,rfl⟩) ?_ ?_
          rotate_left
          ·simp only[Act.put,List.setIfInBounds_toArray,List.set_cons_zero,List.set_cons_succ,i64_w,i32_w]
           rfl
          refine pure_ (i:=41) (N:=some 160) (v:=undef) (a':= ?_) #[true,true,true,true,true,true,true,true,true,true,true,true,true,true,true,true,true,true,true,true,true,true,true,true,true,true,true,true,true,true,true,true,true,true,true,true,true,true,true,true,true,true,false,false] rfl rfl (any_of HT_.out (by kernel_rfl)) (fun _ _ _ h=>h) (Or.inr ⟨by rfl,rfl⟩) ?_ ?_
          rotate_left
          ·simp only[Act.put,List.setIfInBounds_toArray,List.set_cons_zero,List.set_cons_succ,i64_w,i32_w]
           rfl
          refine pure_ (i:=42) (N:=some 161) (v:=undef) (a':= ?_) #[true,true,true,true,true,true,true,true,true,true,true,true,true,true,true,true,true,true,true,true,true,true,true,true,true,true,true,true,true,true,true,true,true,true,true,true,true,true,true,true,true,true,true,false] rfl rfl (any_of HT_.out (by kernel_rfl)) (fun _ _ _ h=>h) (Or.inr ⟨by rfl,rfl⟩) ?_ ?_
          rotate_left
          ·simp only[Act.put,List.setIfInBounds_toArray,List.set_cons_zero,List.set_cons_succ,i64_w,i32_w]
           rfl
          refine pu 43 162 (bm 44 17592186044415) ?_;refine done_ (done_of HT_.out (by kernel_rfl)) ?_;try go_wp2
          (try simp only[← hl4_4])
          go_roundg k4
          case measure=>have:=HK1.out;have:=HK2.out;have:=HK3.out;have:=HK4.out;omega
          case rel=>exact⟨(Zi),(wrap64 (Zh+1)),(by first|rfl|(simp;done)|(simp[*];done)),H',⟨by have:=HK1.out;have:=HK2.out;have:=HK3.out;have:=HK4.out;omega⟩,⟨by(try simp only[hl4_4]);(with_reducible repeat(first|apply Yr|apply Yq|apply Yp));exact HO_4.out⟩,⟨HB.out⟩⟩
         as_aux_lemma=>
         rw[Yx c36] at H;have c36b0:decide (0<Ze)=true:=Yv c36;clear c36;by_cases c37:0≤Ze
         rotate_left
         ·rw[Yy c37] at H
          exact absurd H (by simp)
         as_aux_lemma=>
         rw[Yx c37] at H;have c37b0:decide (0≤Ze)=true:=Yv c37;clear c37;by_cases c38:Ze<(Zi.length:Int)
         rotate_left
         ·rw[Yy c38] at H
          exact absurd H (by simp)
         as_aux_lemma=>
         rw[Yx c38] at H;have c38b0:decide (Ze<(Zi.length:Int))=true:=Yv c38;clear c38;obtain⟨ji39,hji39⟩: ∃ j_:Int,(wrap64 (Ze - 1))=j_:=⟨_,rfl⟩;replace H:(if 0≤(ji39) then(if (ji39)<(Zi.length:Int) then(if ((rd_T61 Zi Ze).f1)<((rd_T61 Zi (ji39)).f1) then(ebbtideref03_Moves.l3 k4 l0 ((Zi.set (Ze:Int).toNat (⟨(rd_T61 Zi (ji39)).f0,(rd_T61 Zi (ji39)).f1,(rd_T61 Zi (ji39)).f2⟩:S61)).set ((ji39):Int).toNat (⟨(rd_T61 Zi Ze).f0,(rd_T61 Zi Ze).f1,(rd_T61 Zi Ze).f2⟩:S61)) Zh ji39) else(if ((rd_T61 Zi Ze).f1)=((rd_T61 Zi (ji39)).f1) then(if ((rd_T61 Zi Ze).f0)<((rd_T61 Zi (ji39)).f0) then(ebbtideref03_Moves.l3 k4 l0 ((Zi.set (Ze:Int).toNat (⟨(rd_T61 Zi (ji39)).f0,(rd_T61 Zi (ji39)).f1,(rd_T61 Zi (ji39)).f2⟩:S61)).set ((ji39):Int).toNat (⟨(rd_T61 Zi Ze).f0,(rd_T61 Zi Ze).f1,(rd_T61 Zi Ze).f2⟩:S61)) Zh ji39) else(ebbtideref03_Moves.l0 k4 l0 Zi (wrap64 (Zh+1)))) else(ebbtideref03_Moves.l0 k4 l0 Zi (wrap64 (Zh+1))))) else(none)) else(none))=some (r1,r2):=by first|(rw[hji39] at H;exact H)|(simp only[hji39] at H ⊢;exact H)
         have hji39w:(IntKind.i64.wrap (Ze - 1))=ji39:=(i64_w _).trans hji39;by_cases c40:0≤(ji39)
         rotate_left
         ·rw[Yy c40] at H
          exact absurd H (by simp)
         as_aux_lemma=>
         rw[Yx c40] at H;have c40b0:decide (0≤(ji39))=true:=Yv c40;clear c40;by_cases c41:(ji39)<(Zi.length:Int)
         rotate_left
         ·rw[Yy c41] at H
          exact absurd H (by simp)
         as_aux_lemma=>
         rw[Yx c41] at H;have c41b0:decide ((ji39)<(Zi.length:Int))=true:=Yv c41;clear c41;by_cases c42:((rd_T61 Zi Ze).f1)<((rd_T61 Zi (ji39)).f1)
         ·as_aux_lemma=>
          rw[Yx c42] at H;have c42b0:decide (((rd_T61 Zi Ze).f1)<((rd_T61 Zi (ji39)).f1))=true:=Yv c42;clear c42;obtain⟨y236,hy236⟩: ∃ y_:List (S61),y_=(Zi.set (Ze:Int).toNat (⟨(rd_T61 Zi (ji39)).f0,(rd_T61 Zi (ji39)).f1,(rd_T61 Zi (ji39)).f2⟩:S61)):=⟨_,rfl⟩;rw[← hy236] at H;have Ny236:=Ya hy236;clear hy236;obtain⟨y237,hy237⟩: ∃ y_:List (S61),y_=(y236.set ((ji39):Int).toNat (⟨(rd_T61 Zi Ze).f0,(rd_T61 Zi Ze).f1,(rd_T61 Zi Ze).f2⟩:S61)):=⟨_,rfl⟩;rw[← hy237] at H;have Ny237:=Ya hy237;clear hy237;have H':=Ya H;clear H;try go_wp2
          replace HO_4:=Ya (Yp HO_4.out);replace HB:=Ya (Yg HB.out);have p232:0≤(Ze:Int):=od;have q232:Ze<(Zi.length:Int):=od;obtain⟨Zq,e232,Vm,Vn,Vo⟩:=at_T61 (Kd.R_reads' HO_4.out).2.2 Ze p232 q232;cases e232;replace p232:=eq_true p232;replace q232:=eq_true q232;have p233:0≤((ji39):Int):=od;have q233:(ji39)<(Zi.length:Int):=od;obtain⟨ad233,e233,Vp,Vq,Vr⟩:=at_T61 (Kd.R_reads' HO_4.out).2.2 (ji39) p233 q233;obtain rfl:Zq=ad233:=(by injection e233);replace p233:=eq_true p233;replace q233:=eq_true q233;refine start_ (n:=44) (S:=fun w'=>w'.cell? (Zq.add ((Ze).toNat * 3))=some (.int .i64 ((rd_T61 Zi Ze).f0))∧w'.cell? ⟨(Zq.add ((Ze).toNat * 3)).block,(Zq.add ((Ze).toNat * 3)).off+1,none⟩=some (.int .i64 ((rd_T61 Zi Ze).f1))∧w'.cell? ⟨(Zq.add ((Ze).toNat * 3)).block,(Zq.add ((Ze).toNat * 3)).off+2,none⟩=some (.int .i64 ((rd_T61 Zi Ze).f2))∧w'.cell? (Zq.add (((ji39)).toNat * 3))=some (.int .i64 ((rd_T61 Zi (ji39)).f0))∧w'.cell? ⟨(Zq.add (((ji39)).toNat * 3)).block,(Zq.add (((ji39)).toNat * 3)).off+1,none⟩=some (.int .i64 ((rd_T61 Zi (ji39)).f1))∧w'.cell? ⟨(Zq.add (((ji39)).toNat * 3)).block,(Zq.add (((ji39)).toNat * 3)).off+2,none⟩=some (.int .i64 ((rd_T61 Zi (ji39)).f2))) (ds:=[]) #[false,false,false,false,false,false,false,false,false,false,false,false,false,false,false,false,false,false,false,false,false,false,false,false,false,false,false,false,false,false,false,false,false,false,false,false,false,false,false,false,false,false,false,false] (by kernel_rfl) rfl rfl ⟨Vm,Vn,Vo,Vp,Vq,Vr⟩ (fun hHeld=> ?_);refine with_tabW ebbtideref03_Moves.tab23 ebbtideref03_Moves.bits23 (fun HT_ HW_=> ?_);generalize wr.drew=w45 at HO_4 HB Vm Vn Vo Vp Vq Vr hHeld ⊢;refine pu 0 119 (bm 44 1) ?_;refine pu 1 120 (bm 44 3) ?_;refine pu 2 121 (bm 44 7) ?_;refine pu 3 122 (bm 44 15) ?_;refine pu 4 123 (bm 44 31) ?_;refine pu 5 124 (bm 44 63) ?_;refine pu 6 125 (bm 44 127) ?_;refine pu 8 127 (bm 44 383) ?_;refine pu 9 128 (bm 44 895) ?_;refine pu 10 129 (bm 44 1919) ?_;refine pu 11 130 (bm 44 3967) ?_;refine pu 12 131 (bm 44 8063) ?_;refine ta 7 126 (bm 44 8191) hHeld ?_;refine ta 13 132 (bm 44 16383) hHeld ?_;refine pu 14 133 (bm 44 32767) ?_;refine pu 15 134 (bm 44 65535) ?_;refine pure_ (i:=16) (N:=some 135) (v:=undef) (a':= ?_) #[true,true,true,true,true,true,true,true,true,true,true,true,true,true,true,true,true,false,false,false,false,false,false,false,false,false,false,false,false,false,false,false,false,false,false,false,false,false,false,false,false,false,false,false] rfl rfl (any_of HT_.out (by kernel_rfl)) (fun _ _ _ h=>h) (Or.inr ⟨by rfl,rfl⟩) ?_ ?_
          rotate_left
          ·simp only[Act.put,List.setIfInBounds_toArray,List.set_cons_zero,List.set_cons_succ,i64_w,i32_w]
           rfl
          refine pure_ (i:=17) (N:=some 136) (v:=undef) (a':= ?_) #[true,true,true,true,true,true,true,true,true,true,true,true,true,true,true,true,true,true,false,false,false,false,false,false,false,false,false,false,false,false,false,false,false,false,false,false,false,false,false,false,false,false,false,false] rfl rfl (any_of HT_.out (by kernel_rfl)) (fun _ _ _ h=>h) (Or.inr ⟨by rfl,rfl⟩) ?_ ?_
          rotate_left
          ·simp only[Act.put,List.setIfInBounds_toArray,List.set_cons_zero,List.set_cons_succ,i64_w,i32_w]
           rfl
          refine pure_ (i:=18) (N:=some 137) (v:=undef) (a':= ?_) #[true,true,true,true,true,true,true,true,true,true,true,true,true,true,true,true,true,true,true,false,false,false,false,false,false,false,false,false,false,false,false,false,false,false,false,false,false,false,false,false,false,false,false,false] rfl rfl (any_of HT_.out (by kernel_rfl)) (fun _ _ _ h=>h) (Or.inr ⟨by rfl,rfl⟩) ?_ ?_
          rotate_left
          ·simp only[Act.put,List.setIfInBounds_toArray,List.set_cons_zero,List.set_cons_succ,i64_w,i32_w]
           rfl
          refine pure_ (i:=19) (N:=some 138) (v:=undef) (a':= ?_) #[true,true,true,true,true,true,true,true,true,true,true,true,true,true,true,true,true,true,true,true,false,false,false,false,false,false,false,false,false,false,false,false,false,false,false,false,false,false,false,false,false,false,false,false] rfl rfl (any_of HT_.out (by kernel_rfl)) (fun _ _ _ h=>h) (Or.inr ⟨by rfl,rfl⟩) ?_ ?_
          rotate_left
          ·simp only[Act.put,List.setIfInBounds_toArray,List.set_cons_zero,List.set_cons_succ,i64_w,i32_w]
           rfl
          refine pure_ (i:=20) (N:=some 139) (v:=undef) (a':= ?_) #[true,true,true,true,true,true,true,true,true,true,true,true,true,true,true,true,true,true,true,true,true,false,false,false,false,false,false,false,false,false,false,false,false,false,false,false,false,false,false,false,false,false,false,false] rfl rfl (any_of HT_.out (by kernel_rfl)) (fun _ _ _ h=>h) (Or.inr ⟨by rfl,rfl⟩) ?_ ?_
          rotate_left
          ·simp only[Act.put,List.setIfInBounds_toArray,List.set_cons_zero,List.set_cons_succ,i64_w,i32_w]
           rfl
          refine pure_ (i:=21) (N:=some 140) (v:=undef) (a':= ?_) #[true,true,true,true,true,true,true,true,true,true,true,true,true,true,true,true,true,true,true,true,true,true,false,false,false,false,false,false,false,false,false,false,false,false,false,false,false,false,false,false,false,false,false,false] rfl rfl (any_of HT_.out (by kernel_rfl)) (fun _ _ _ h=>h) (Or.inr ⟨by rfl,rfl⟩) ?_ ?_
          rotate_left
          ·simp only[Act.put,List.setIfInBounds_toArray,List.set_cons_zero,List.set_cons_succ,i64_w,i32_w]
           rfl
          refine pure_ (i:=22) (N:=some 141) (v:=undef) (a':= ?_) #[true,true,true,true,true,true,true,true,true,true,true,true,true,true,true,true,true,true,true,true,true,true,true,false,false,false,false,false,false,false,false,false,false,false,false,false,false,false,false,false,false,false,false,false] rfl rfl (any_of HT_.out (by kernel_rfl)) (fun _ _ _ h=>h) (Or.inr ⟨by rfl,rfl⟩) ?_ ?_
          rotate_left
          ·simp only[Act.put,List.setIfInBounds_toArray,List.set_cons_zero,List.set_cons_succ,i64_w,i32_w]
           rfl
          refine pure_ (i:=23) (N:=some 142) (v:=undef) (a':= ?_) #[true,true,true,true,true,true,true,true,true,true,true,true,true,true,true,true,true,true,true,true,true,true,true,true,false,false,false,false,false,false,false,false,false,false,false,false,false,false,false,false,false,false,false,false] rfl rfl (any_of HT_.out (by kernel_rfl)) (fun _ _ _ h=>h) (Or.inr ⟨by rfl,rfl⟩) ?_ ?_
          rotate_left
          ·simp only[Act.put,List.setIfInBounds_toArray,List.set_cons_zero,List.set_cons_succ,i64_w,i32_w]
           rfl
          refine pure_ (i:=24) (N:=some 143) (v:=undef) (a':= ?_) #[true,true,true,true,true,true,true,true,true,true,true,true,true,true,true,true,true,true,true,true,true,true,true,true,true,false,false,false,false,false,false,false,false,false,false,false,false,false,false,false,false,false,false,false] rfl rfl (any_of HT_.out (by kernel_rfl)) (fun _ _ _ h=>h) (Or.inr ⟨by rfl,rfl⟩) ?_ ?_
          rotate_left
          ·simp only[Act.put,List.setIfInBounds_toArray,List.set_cons_zero,List.set_cons_succ,i64_w,i32_w]
           rfl
          refine pure_ (i:=25) (N:=some 144) (v:=undef) (a':= ?_) #[true,true,true,true,true,true,true,true,true,true,true,true,true,true,true,true,true,true,true,true,true,true,true,true,true,true,false,false,false,false,false,false,false,false,false,false,false,false,false,false,false,false,false,false] rfl rfl (any_of HT_.out (by kernel_rfl)) (fun _ _ _ h=>h) (Or.inr ⟨by rfl,rfl⟩) ?_ ?_
          rotate_left
          ·simp only[Act.put,List.setIfInBounds_toArray,List.set_cons_zero,List.set_cons_succ,i64_w,i32_w]
           rfl
          refine pure_ (i:=26) (N:=some 145) (v:=undef) (a':= ?_) #[true,true,true,true,true,true,true,true,true,true,true,true,true,true,true,true,true,true,true,true,true,true,true,true,true,true,true,false,false,false,false,false,false,false,false,false,false,false,false,false,false,false,false,false] rfl rfl (any_of HT_.out (by kernel_rfl)) (fun _ _ _ h=>h) (Or.inr ⟨by rfl,rfl⟩) ?_ ?_
          rotate_left
          ·simp only[Act.put,List.setIfInBounds_toArray,List.set_cons_zero,List.set_cons_succ,i64_w,i32_w]
           rfl
          refine pure_ (i:=27) (N:=some 146) (v:=undef) (a':= ?_) #[true,true,true,true,true,true,true,true,true,true,true,true,true,true,true,true,true,true,true,true,true,true,true,true,true,true,true,true,false,false,false,false,false,false,false,false,false,false,false,false,false,false,false,false] rfl rfl (any_of HT_.out (by kernel_rfl)) (fun _ _ _ h=>h) (Or.inr ⟨by rfl,rfl⟩) ?_ ?_
          rotate_left
          ·simp only[Act.put,List.setIfInBounds_toArray,List.set_cons_zero,List.set_cons_succ,i64_w,i32_w]
           rfl
          refine pure_ (i:=28) (N:=some 147) (v:=undef) (a':= ?_) #[true,true,true,true,true,true,true,true,true,true,true,true,true,true,true,true,true,true,true,true,true,true,true,true,true,true,true,true,true,false,false,false,false,false,false,false,false,false,false,false,false,false,false,false] rfl rfl (any_of HT_.out (by kernel_rfl)) (fun _ _ _ h=>h) (Or.inr ⟨by rfl,rfl⟩) ?_ ?_
          rotate_left
          ·simp only[Act.put,List.setIfInBounds_toArray,List.set_cons_zero,List.set_cons_succ,i64_w,i32_w]
           rfl
          refine pure_ (i:=29) (N:=some 148) (v:=undef) (a':= ?_) #[true,true,true,true,true,true,true,true,true,true,true,true,true,true,true,true,true,true,true,true,true,true,true,true,true,true,true,true,true,true,false,false,false,false,false,false,false,false,false,false,false,false,false,false] rfl rfl (any_of HT_.out (by kernel_rfl)) (fun _ _ _ h=>h) (Or.inr ⟨by rfl,rfl⟩) ?_ ?_
          rotate_left
          ·simp only[Act.put,List.setIfInBounds_toArray,List.set_cons_zero,List.set_cons_succ,i64_w,i32_w]
           rfl
          refine pure_ (i:=30) (N:=some 149) (v:=undef) (a':= ?_) #[true,true,true,true,true,true,true,true,true,true,true,true,true,true,true,true,true,true,true,true,true,true,true,true,true,true,true,true,true,true,true,false,false,false,false,false,false,false,false,false,false,false,false,false] rfl rfl (any_of HT_.out (by kernel_rfl)) (fun _ _ _ h=>h) (Or.inr ⟨by rfl,rfl⟩) ?_ ?_
          rotate_left
          ·simp only[Act.put,List.setIfInBounds_toArray,List.set_cons_zero,List.set_cons_succ,i64_w,i32_w]
           rfl
          refine pure_ (i:=31) (N:=some 150) (v:=undef) (a':= ?_) #[true,true,true,true,true,true,true,true,true,true,true,true,true,true,true,true,true,true,true,true,true,true,true,true,true,true,true,true,true,true,true,true,false,false,false,false,false,false,false,false,false,false,false,false] rfl rfl (any_of HT_.out (by kernel_rfl)) (fun _ _ _ h=>h) (Or.inr ⟨by rfl,rfl⟩) ?_ ?_
          rotate_left
          ·simp only[Act.put,List.setIfInBounds_toArray,List.set_cons_zero,List.set_cons_succ,i64_w,i32_w]
           rfl
          refine pure_ (i:=32) (N:=some 151) (v:=undef) (a':= ?_) #[true,true,true,true,true,true,true,true,true,true,true,true,true,true,true,true,true,true,true,true,true,true,true,true,true,true,true,true,true,true,true,true,true,false,false,false,false,false,false,false,false,false,false,false] rfl rfl (any_of HT_.out (by kernel_rfl)) (fun _ _ _ h=>h) (Or.inr ⟨by rfl,rfl⟩) ?_ ?_
          rotate_left
          ·simp only[Act.put,List.setIfInBounds_toArray,List.set_cons_zero,List.set_cons_succ,i64_w,i32_w]
           rfl
          refine pure_ (i:=33) (N:=some 152) (v:=undef) (a':= ?_) #[true,true,true,true,true,true,true,true,true,true,true,true,true,true,true,true,true,true,true,true,true,true,true,true,true,true,true,true,true,true,true,true,true,true,false,false,false,false,false,false,false,false,false,false] rfl rfl (any_of HT_.out (by kernel_rfl)) (fun _ _ _ h=>h) (Or.inr ⟨by rfl,rfl⟩) ?_ ?_
          rotate_left
          ·simp only[Act.put,List.setIfInBounds_toArray,List.set_cons_zero,List.set_cons_succ,i64_w,i32_w]
           rfl
          refine pure_ (i:=34) (N:=some 153) (v:=undef) (a':= ?_) #[true,true,true,true,true,true,true,true,true,true,true,true,true,true,true,true,true,true,true,true,true,true,true,true,true,true,true,true,true,true,true,true,true,true,true,false,false,false,false,false,false,false,false,false] rfl rfl (any_of HT_.out (by kernel_rfl)) (fun _ _ _ h=>h) (Or.inr ⟨by rfl,rfl⟩) ?_ ?_
          rotate_left
          ·simp only[Act.put,List.setIfInBounds_toArray,List.set_cons_zero,List.set_cons_succ,i64_w,i32_w]
           rfl
          refine pure_ (i:=35) (N:=some 154) (v:=undef) (a':= ?_) #[true,true,true,true,true,true,true,true,true,true,true,true,true,true,true,true,true,true,true,true,true,true,true,true,true,true,true,true,true,true,true,true,true,true,true,true,false,false,false,false,false,false,false,false] rfl rfl (any_of HT_.out (by kernel_rfl)) (fun _ _ _ h=>h) (Or.inr ⟨by rfl,rfl⟩) ?_ ?_
          rotate_left
          ·simp only[Act.put,List.setIfInBounds_toArray,List.set_cons_zero,List.set_cons_succ,i64_w,i32_w]
           rfl
          refine pure_ (i:=36) (N:=some 155) (v:=undef) (a':= ?_) #[true,true,true,true,true,true,true,true,true,true,true,true,true,true,true,true,true,true,true,true,true,true,true,true,true,true,true,true,true,true,true,true,true,true,true,true,true,false,false,false,false,false,false,false] rfl rfl (any_of HT_.out (by kernel_rfl)) (fun _ _ _ h=>h) (Or.inr ⟨by rfl,rfl⟩) ?_ ?_
          rotate_left
          ·simp only[Act.put,List.setIfInBounds_toArray,List.set_cons_zero,List.set_cons_succ,i64_w,i32_w]
           rfl
          refine pure_ (i:=37) (N:=some 156) (v:=undef) (a':= ?_) #[true,true,true,true,true,true,true,true,true,true,true,true,true,true,true,true,true,true,true,true,true,true,true,true,true,true,true,true,true,true,true,true,true,true,true,true,true,true,false,false,false,false,false,false] rfl rfl (any_of HT_.out (by kernel_rfl)) (fun _ _ _ h=>h) (Or.inr ⟨by rfl,rfl⟩) ?_ ?_
          rotate_left
          ·simp only[Act.put,List.setIfInBounds_toArray,List.set_cons_zero,List.set_cons_succ,i64_w,i32_w]
           rfl
          refine pure_ (i:=38) (N:=some 157) (v:=undef) (a':= ?_) #[true,true,true,true,true,true,true,true,true,true,true,true,true,true,true,true,true,true,true,true,true,true,true,true,true,true,true,true,true,true,true,true,true,true,true,true,true,true,true,false,false,false,false,false] rfl rfl (any_of HT_.out (by kernel_rfl)) (fun _ _ _ h=>h) (Or.inr ⟨by rfl,rfl⟩) ?_ ?_
          rotate_left
          ·simp only[Act.put,List.setIfInBounds_toArray,List.set_cons_zero,List.set_cons_succ,i64_w,i32_w]
           rfl
          refine pure_ (i:=39) (N:=some 158) (v:=undef) (a':= ?_) #[true,true,true,true,true,true,true,true,true,true,true,true,true,true,true,true,true,true,true,true,true,true,true,true,true,true,true,true,true,true,true,true,true,true,true,true,true,true,true,true,false,false,false,false] rfl rfl (any_of HT_.out (by kernel_rfl)) (fun _ _ _ h=>h) (Or.inr ⟨by rfl,rfl⟩) ?_ ?_
          rotate_left
          ·simp only[Act.put,List.setIfInBounds_toArray,List.set_cons_zero,List.set_cons_succ,i64_w,i32_w]
           rfl
          refine pure_ (i:=40) (N:=some 159) (v:=undef) (a':= ?_) #[true,true,true,true,true,true,true,true,true,true,true,true,true,true,true,true,true,true,true,true,true,true,true,true,true,true,true,true,true,true,true,true,true,true,true,true,true,true,true,true,true,false,false,false] rfl rfl (any_of HT_.out (by kernel_rfl)) (fun _ _ _ h=>h) (Or.inr ⟨by rfl,rfl⟩) ?_ ?_
          rotate_left
          ·simp only[Act.put,List.setIfInBounds_toArray,List.set_cons_zero,List.set_cons_succ,i64_w,i32_w]
           rfl
          refine pure_ (i:=41) (N:=some 160) (v:=undef) (a':= ?_) #[true,true,true,true,true,true,true,true,true,true,true,true,true,true,true,true,true,true,true,true,true,true,true,true,true,true,true,true,true,true,true,true,true,true,true,true,true,true,true,true,true,true,false,false] rfl rfl (any_of HT_.out (by kernel_rfl)) (fun _ _ _ h=>h) (Or.inr ⟨by rfl,rfl⟩) ?_ ?_
          rotate_left
          ·simp only[Act.put,List.setIfInBounds_toArray,List.set_cons_zero,List.set_cons_succ,i64_w,i32_w]
           rfl
          refine pu 42 161 (bm 44 8796093022207) ?_;refine pu 43 162 (bm 44 17592186044415) ?_;refine done_ (done_of HT_.out (by kernel_rfl)) ?_;try go_wp2
          replace HO_4:=Ya (Yp HO_4.out);replace HB:=Ya (Yg HB.out);have p234:0≤((ji39):Int):=od;have q234:(ji39)<(Zi.length:Int):=od;obtain⟨ad234,e234,hx234_0,hx234_1,hx234_2⟩:=at_T61 (Kd.R_reads' HO_4.out).2.2 (ji39) p234 q234;obtain rfl:Zq=ad234:=(by injection e234);replace p234:=eq_true p234;replace q234:=eq_true q234;have p235:0≤(Ze:Int):=od;have q235:Ze<(Zi.length:Int):=od;obtain⟨ad235,e235,hx235_0,hx235_1,hx235_2⟩:=at_T61 (Kd.R_reads' HO_4.out).2.2 Ze p235 q235;obtain rfl:Zq=ad235:=(by injection e235);replace p235:=eq_true p235;replace q235:=eq_true q235;have p43:0≤(Ze:Int):=od;have q43:(Ze:Int)<((Zi.length:Int):Int):=od;obtain⟨go43,co43,eo43,gb43,gl43,cl43,HG43⟩:=Kd.R_form HO_4.out (by omega)
          (first|cases eo43|(injection eo43 with ea_ en_ ec_;(first|subst ea_|(injection ea_ with ea_;subst ea_));subst ec_;clear en_))
          have GB43:=Ya gb43;have GG43:=Ya HG43;clear gb43 gl43 HG43
          (first|simp only[add_plain] at Vm|skip)
          (first|simp only[add_plain] at Vn|skip)
          (first|simp only[add_plain] at Vo|skip)
          (first|simp only[add_plain] at Vp|skip)
          (first|simp only[add_plain] at Vq|skip)
          (first|simp only[add_plain] at Vr|skip)
          (first|simp only[add_plain] at hx234_0|skip)
          (first|simp only[add_plain] at hx234_1|skip)
          (first|simp only[add_plain] at hx234_2|skip)
          (first|simp only[add_plain] at hx235_0|skip)
          (first|simp only[add_plain] at hx235_1|skip)
          (first|simp only[add_plain] at hx235_2|skip)
          obtain⟨ce43,hcl43,hM43,hcc43,hfr43⟩:=Kd.R_elem HO_4.out z61 (Ze:Int) p43 q43;obtain rfl:=k61_openM hM43;have hx43_0:World.cell? _ ⟨go43,(Ze:Int).toNat * 3,none⟩=some (.int .i64 ((rd_T61 Zi Ze).f0)):=hcc43 0 _ rfl;have hx43_1:World.cell? _ ⟨go43,(Ze:Int).toNat * 3+1,none⟩=some (.int .i64 ((rd_T61 Zi Ze).f1)):=hcc43 1 _ rfl;have hx43_2:World.cell? _ ⟨go43,(Ze:Int).toNat * 3+2,none⟩=some (.int .i64 ((rd_T61 Zi Ze).f2)):=hcc43 2 _ rfl;have hf43_0:World.frozen? _ ⟨go43,(Ze:Int).toNat * 3,none⟩=false:=hfr43 0;have hf43_1:World.frozen? _ ⟨go43,(Ze:Int).toNat * 3+1,none⟩=false:=hfr43 1;have hf43_2:World.frozen? _ ⟨go43,(Ze:Int).toNat * 3+2,none⟩=false:=hfr43 2;clear hcl43 hcc43 hfr43 hM43;replace p43:=eq_true p43;replace q43:=eq_true q43;obtain⟨ce47,hcl47,hM47,hcc47,hfr47⟩:=Kd.R_elem HO_4.out z61 (Ze:Int) (Yu (by first|(with_reducible assumption)|assumption)) (by have h_:(Ze:Int)<((Zi.length:Int):Int):=od;first|exact h_|(have e_:=(Kd.R_reads' HO_4.out).1;omega)|simpa using h_);obtain rfl:=k61_openM hM47;have HP47:=(Kd.R_seg HO_4.out (Ze:Int) (Yu (by first|(with_reducible assumption)|assumption)) (by have h_:(Ze:Int)<((Zi.length:Int):Int):=od;first|exact h_|(have e_:=(Kd.R_reads' HO_4.out).1;omega)|simpa using h_) (seg:=[.int .i64 ((rd_T61 Zi (ji39)).f0), .int .i64 ((rd_T61 Zi (ji39)).f1), .int .i64 ((rd_T61 Zi (ji39)).f2)]) (j:=0) hcl47 hcc47 (show 3≤3 from by decide) (x':=(⟨(rd_T61 Zi (ji39)).f0,(rd_T61 Zi (ji39)).f1,(rd_T61 Zi (ji39)).f2⟩:S61)) (k61_mkM _ _ _ (⟨(rd_T61 Zi (ji39)).f0,(rd_T61 Zi (ji39)).f1,(rd_T61 Zi (ji39)).f2⟩:S61) ) (fun _ hk=>hk)).1;rw[← Ny236.out] at HP47;have HQ47:=Ya HP47;clear hcl47 hcc47 hfr47 hM47 HP47;have p44:0≤((ji39):Int):=od;have q44:((ji39):Int)<((Zi.length:Int):Int):=od;obtain⟨ce44,hcl44,hM44,hcc44,hfr44⟩:=Kd.R_elem HQ47.out z61 ((ji39):Int) p44 q44;obtain rfl:=k61_openM hM44;have hx44_0:World.cell? _ ⟨go43,((ji39):Int).toNat * 3,none⟩=some (.int .i64 ((rd_T61 y236 (ji39)).f0)):=hcc44 0 _ rfl;have hx44_1:World.cell? _ ⟨go43,((ji39):Int).toNat * 3+1,none⟩=some (.int .i64 ((rd_T61 y236 (ji39)).f1)):=hcc44 1 _ rfl;have hx44_2:World.cell? _ ⟨go43,((ji39):Int).toNat * 3+2,none⟩=some (.int .i64 ((rd_T61 y236 (ji39)).f2)):=hcc44 2 _ rfl;have hf44_0:World.frozen? _ ⟨go43,((ji39):Int).toNat * 3,none⟩=false:=hfr44 0;have hf44_1:World.frozen? _ ⟨go43,((ji39):Int).toNat * 3+1,none⟩=false:=hfr44 1;have hf44_2:World.frozen? _ ⟨go43,((ji39):Int).toNat * 3+2,none⟩=false:=hfr44 2;clear hcl44 hcc44 hfr44 hM44;replace p44:=eq_true p44;replace q44:=eq_true q44;obtain⟨ce48,hcl48,hM48,hcc48,hfr48⟩:=Kd.R_elem HQ47.out z61 ((ji39):Int) (Yu (by first|(with_reducible assumption)|assumption)) (by have h_:((ji39):Int)<((Zi.length:Int):Int):=od;first|exact h_|(have e_:=(Kd.R_reads' HO_4.out).1;omega)|simpa using h_);obtain rfl:=k61_openM hM48;have HP48:=(Kd.R_seg HQ47.out ((ji39):Int) (Yu (by first|(with_reducible assumption)|assumption)) (by have h_:((ji39):Int)<((Zi.length:Int):Int):=od;first|exact h_|(have e_:=(Kd.R_reads' HO_4.out).1;omega)|simpa using h_) (seg:=[.int .i64 ((rd_T61 Zi Ze).f0), .int .i64 ((rd_T61 Zi Ze).f1), .int .i64 ((rd_T61 Zi Ze).f2)]) (j:=0) hcl48 hcc48 (show 3≤3 from by decide) (x':=(⟨(rd_T61 Zi Ze).f0,(rd_T61 Zi Ze).f1,(rd_T61 Zi Ze).f2⟩:S61)) (k61_mkM _ _ _ (⟨(rd_T61 Zi Ze).f0,(rd_T61 Zi Ze).f1,(rd_T61 Zi Ze).f2⟩:S61) ) (fun _ hk=>hk)).1;rw[← Ny237.out] at HP48;have HQ48:=Ya HP48;clear hcl48 hcc48 hfr48 hM48 HP48;refine start_ (n:=18) (S:=fun w'=>w'.cell? ⟨go43,(((ji39)).toNat * 3),none⟩=some (.int .i64 ((rd_T61 Zi (ji39)).f0))∧w'.cell? ⟨go43,(((ji39)).toNat * 3)+1,none⟩=some (.int .i64 ((rd_T61 Zi (ji39)).f1))∧w'.cell? ⟨go43,(((ji39)).toNat * 3)+2,none⟩=some (.int .i64 ((rd_T61 Zi (ji39)).f2))∧w'.cell? ⟨go43,((Ze).toNat * 3),none⟩=some (.int .i64 ((rd_T61 Zi Ze).f0))∧w'.cell? ⟨go43,((Ze).toNat * 3)+1,none⟩=some (.int .i64 ((rd_T61 Zi Ze).f1))∧w'.cell? ⟨go43,((Ze).toNat * 3)+2,none⟩=some (.int .i64 ((rd_T61 Zi Ze).f2))) (ds:=[15,17]) #[false,false,false,false,false,false,false,false,false,false,false,false,false,false,false,false,false,false] (by kernel_rfl) rfl rfl ⟨hx234_0,hx234_1,hx234_2,hx235_0,hx235_1,hx235_2⟩ (fun hHeld=> ?_);refine with_tabW ebbtideref03_Moves.tab25 ebbtideref03_Moves.bits25 (fun HT_ HW_=> ?_);generalize w45.drew=w46 at HO_4 HB GG43 HQ47 HQ48 hf43_0 hf43_1 hf43_2 hf44_0 hf44_1 hf44_2 Vm Vn Vo Vp Vq Vr hx234_0 hx234_1 hx234_2 hx235_0 hx235_1 hx235_2 hx43_0 hx43_1 hx43_2 hx44_0 hx44_1 hx44_2 hHeld ⊢;refine pu 0 165 (bm 18 1) ?_;refine pu 1 166 (bm 18 3) ?_;refine pu 2 167 (bm 18 7) ?_;refine pu 3 168 (bm 18 15) ?_;refine pu 4 169 (bm 18 31) ?_;refine pu 5 170 (bm 18 63) ?_;refine pu 6 171 (bm 18 127) ?_;refine pu 7 172 (bm 18 255) ?_;refine pu 8 173 (bm 18 511) ?_;refine pu 10 175 (bm 18 1535) ?_;refine pu 11 176 (bm 18 3583) ?_;refine pu 12 177 (bm 18 7679) ?_;refine ta 9 174 (bm 18 8191) hHeld ?_;refine ta 13 178 (bm 18 16383) hHeld ?_;refine pu 14 179 (bm 18 32767) ?_;obtain⟨_,_,_,_,hfrj_⟩:=Kd.R_elem HO_4.out z61 (ji39:Int) (by first|assumption|exact of_eq_true (by assumption)) (by first|assumption|exact of_eq_true (by assumption));have hfj0_:World.frozen? _ ⟨go43,ji39.toNat * 3,none⟩=false:=hfrj_ 0;have hfj1_:World.frozen? _ ⟨go43,ji39.toNat * 3+1,none⟩=false:=hfrj_ 1;have hfj2_:World.frozen? _ ⟨go43,ji39.toNat * 3+2,none⟩=false:=hfrj_ 2;clear hfrj_;have hne_:Ze.toNat≠ji39.toNat:=by
           have a1:0≤Ze:=by first|assumption|exact of_eq_true (by assumption)
           have a2:0≤ji39:=by first|assumption|exact of_eq_true (by assumption)
           have a3:wrap64 (Ze - 1)=ji39:=by first|assumption|exact Aside0.out (by assumption)|(rw[← i64_w];assumption)
           unfold wrap64 at a3;omega
          have hn1_:=Ne.symm hne_;have hn2_:Ze.toNat * 3≠ji39.toNat * 3:=by omega
          have hn3_:=Ne.symm hn2_;have hn4_:Ze.toNat * 3≠ji39.toNat * 3+1:=by omega
          have hn5_:=Ne.symm hn4_;have hn6_:Ze.toNat * 3≠ji39.toNat * 3+2:=by omega
          have hn7_:=Ne.symm hn6_;have hn8_:Ze.toNat * 3+1≠ji39.toNat * 3:=by omega
          have hn9_:=Ne.symm hn8_;have hn10_:Ze.toNat * 3+1≠ji39.toNat * 3+1:=by omega
          have hn11_:=Ne.symm hn10_;have hn12_:Ze.toNat * 3+1≠ji39.toNat * 3+2:=by omega
          have hn13_:=Ne.symm hn12_;have hn14_:Ze.toNat * 3+2≠ji39.toNat * 3:=by omega
          have hn15_:=Ne.symm hn14_;have hn16_:Ze.toNat * 3+2≠ji39.toNat * 3+1:=by omega
          have hn17_:=Ne.symm hn16_;have hn18_:Ze.toNat * 3+2≠ji39.toNat * 3+2:=by omega
          have hn19_:=Ne.symm hn18_;refine last_ (i:=15) (N:=none) #[true,true,true,true,true,true,true,true,true,true,true,true,true,true,true,true,false,false] rfl rfl (one_of HT_.out (by kernel_rfl)) (by decide) (fun K hK=> ?_);refine skip_ (w1:= ?_) (by rfl) rfl ?_ ?_
          rotate_left
          ·go_simp
           rfl
          refine hK.out _ _ ?_;clear hK K;refine pu 16 180 (bm 18 131071) ?_;refine last_ (i:=17) (N:=none) #[true,true,true,true,true,true,true,true,true,true,true,true,true,true,true,true,true,true] rfl rfl (one_of HT_.out (by kernel_rfl)) (by decide) (fun K hK=> ?_);refine skip_ (w1:= ?_) (by rfl) rfl ?_ ?_
          rotate_left
          ·go_simp
           rfl
          refine hK.out _ _ ?_;clear hK K;refine done_ (done_of HT_.out (by kernel_rfl)) ?_;try go_wp2
          (try simp only[← hl4_4])
          go_roundg k4
          case measure=>have:=HK1.out;have:=HK2.out;have:=HK3.out;have:=HK4.out;omega
          case rel=>exact⟨(y237),(ji39),(by first|rfl|(simp;done)|(simp only[← hji39]<;>(first|rfl|simp))|(simp[*];done)),H',⟨by have:=HK1.out;have:=HK2.out;have:=HK3.out;have:=HK4.out;omega⟩,⟨by(try simp only[hl4_4]);(with_reducible repeat(first|apply Yr|apply Yq|apply Yp));exact HQ48.out⟩,⟨bl⟩⟩
         as_aux_lemma=>
         rw[Yy c42] at H;have c42b0:decide (((rd_T61 Zi Ze).f1)<((rd_T61 Zi (ji39)).f1))=false:=Yw c42;clear c42;by_cases c49:((rd_T61 Zi Ze).f1)=((rd_T61 Zi (ji39)).f1)
         rotate_left
         ·as_aux_lemma=>
          rw[Yy c49] at H;have c49b0:(((rd_T61 Zi Ze).f1) == ((rd_T61 Zi (ji39)).f1))=false:=beq_eq_false_iff_ne.mpr c49;have c49b1:(((rd_T61 Zi Ze).f1) != ((rd_T61 Zi (ji39)).f1))=true:=bne_iff_ne.mpr c49;have H':=Ya H;clear H;try go_wp2
          replace HO_4:=Ya (Yp HO_4.out);replace HB:=Ya (Yg HB.out);have p232:0≤(Ze:Int):=od;have q232:Ze<(Zi.length:Int):=od;obtain⟨Zq,e232,Vm,Vn,Vo⟩:=at_T61 (Kd.R_reads' HO_4.out).2.2 Ze p232 q232;cases e232;replace p232:=eq_true p232;replace q232:=eq_true q232;have p233:0≤((ji39):Int):=od;have q233:(ji39)<(Zi.length:Int):=od;obtain⟨ad233,e233,Vp,Vq,Vr⟩:=at_T61 (Kd.R_reads' HO_4.out).2.2 (ji39) p233 q233;obtain rfl:Zq=ad233:=(by injection e233);replace p233:=eq_true p233;replace q233:=eq_true q233;have p238:0≤(Ze:Int):=od;have q238:Ze<(Zi.length:Int):=od;obtain⟨ad238,e238,Ji,Jj,Jk⟩:=at_T61 (Kd.R_reads' HO_4.out).2.2 Ze p238 q238;obtain rfl:Zq=ad238:=(by injection e238);replace p238:=eq_true p238;replace q238:=eq_true q238;have p239:0≤((ji39):Int):=od;have q239:(ji39)<(Zi.length:Int):=od;obtain⟨ad239,e239,Jl,Jm,Jn⟩:=at_T61 (Kd.R_reads' HO_4.out).2.2 (ji39) p239 q239;obtain rfl:Zq=ad239:=(by injection e239);replace p239:=eq_true p239;replace q239:=eq_true q239;refine start_ (n:=44) (S:=fun w'=>w'.cell? (Zq.add ((Ze).toNat * 3))=some (.int .i64 ((rd_T61 Zi Ze).f0))∧w'.cell? ⟨(Zq.add ((Ze).toNat * 3)).block,(Zq.add ((Ze).toNat * 3)).off+1,none⟩=some (.int .i64 ((rd_T61 Zi Ze).f1))∧w'.cell? ⟨(Zq.add ((Ze).toNat * 3)).block,(Zq.add ((Ze).toNat * 3)).off+2,none⟩=some (.int .i64 ((rd_T61 Zi Ze).f2))∧w'.cell? (Zq.add (((ji39)).toNat * 3))=some (.int .i64 ((rd_T61 Zi (ji39)).f0))∧w'.cell? ⟨(Zq.add (((ji39)).toNat * 3)).block,(Zq.add (((ji39)).toNat * 3)).off+1,none⟩=some (.int .i64 ((rd_T61 Zi (ji39)).f1))∧w'.cell? ⟨(Zq.add (((ji39)).toNat * 3)).block,(Zq.add (((ji39)).toNat * 3)).off+2,none⟩=some (.int .i64 ((rd_T61 Zi (ji39)).f2))∧w'.cell? (Zq.add ((Ze).toNat * 3))=some (.int .i64 ((rd_T61 Zi Ze).f0))∧w'.cell? ⟨(Zq.add ((Ze).toNat * 3)).block,(Zq.add ((Ze).toNat * 3)).off+1,none⟩=some (.int .i64 ((rd_T61 Zi Ze).f1))∧w'.cell? ⟨(Zq.add ((Ze).toNat * 3)).block,(Zq.add ((Ze).toNat * 3)).off+2,none⟩=some (.int .i64 ((rd_T61 Zi Ze).f2))∧w'.cell? (Zq.add (((ji39)).toNat * 3))=some (.int .i64 ((rd_T61 Zi (ji39)).f0))∧w'.cell? ⟨(Zq.add (((ji39)).toNat * 3)).block,(Zq.add (((ji39)).toNat * 3)).off+1,none⟩=some (.int .i64 ((rd_T61 Zi (ji39)).f1))∧w'.cell? ⟨(Zq.add (((ji39)).toNat * 3)).block,(Zq.add (((ji39)).toNat * 3)).off+2,none⟩=some (.int .i64 ((rd_T61 Zi (ji39)).f2))) (ds:=[]) #[false,false,false,false,false,false,false,false,false,false,false,false,false,false,false,false,false,false,false,false,false,false,false,false,false,false,false,false,false,false,false,false,false,false,false,false,false,false,false,false,false,false,false,false] (by kernel_rfl) rfl rfl ⟨Vm,Vn,Vo,Vp,Vq,Vr,Ji,Jj,Jk,Jl,Jm,Jn⟩ (fun hHeld=> ?_);refine with_tabW ebbtideref03_Moves.tab23 ebbtideref03_Moves.bits23 (fun HT_ HW_=> ?_);generalize wr.drew=w58 at HO_4 HB Vm Vn Vo Vp Vq Vr Ji Jj Jk Jl Jm Jn hHeld ⊢;refine pu 0 119 (bm 44 1) ?_;refine pu 1 120 (bm 44 3) ?_;refine pu 2 121 (bm 44 7) ?_;refine pu 3 122 (bm 44 15) ?_;refine pu 4 123 (bm 44 31) ?_;refine pu 5 124 (bm 44 63) ?_;refine pu 6 125 (bm 44 127) ?_;refine pu 8 127 (bm 44 383) ?_;refine pu 9 128 (bm 44 895) ?_;refine pu 10 129 (bm 44 1919) ?_;refine pu 11 130 (bm 44 3967) ?_;refine pu 12 131 (bm 44 8063) ?_;refine ta 7 126 (bm 44 8191) hHeld ?_;refine ta 13 132 (bm 44 16383) hHeld ?_;refine pu 14 133 (bm 44 32767) ?_;refine pu 15 134 (bm 44 65535) ?_;refine pu 16 135 (bm 44 131071) ?_;refine pu 17 136 (bm 44 262143) ?_;refine pu 18 137 (bm 44 524287) ?_;refine pu 19 138 (bm 44 1048575) ?_;refine pu 21 140 (bm 44 3145727) ?_;refine pu 22 141 (bm 44 7340031) ?_;refine pu 23 142 (bm 44 15728639) ?_;refine pu 24 143 (bm 44 32505855) ?_;refine pu 25 144 (bm 44 66060287) ?_;refine ta 20 139 (bm 44 67108863) hHeld ?_;refine ta 26 145 (bm 44 134217727) hHeld ?_;refine pu 27 146 (bm 44 268435455) ?_;refine pu 28 147 (bm 44 536870911) ?_;refine pure_ (i:=29) (N:=some 148) (v:=undef) (a':= ?_) #[true,true,true,true,true,true,true,true,true,true,true,true,true,true,true,true,true,true,true,true,true,true,true,true,true,true,true,true,true,true,false,false,false,false,false,false,false,false,false,false,false,false,false,false] rfl rfl (any_of HT_.out (by kernel_rfl)) (fun _ _ _ h=>h) (Or.inr ⟨by rfl,rfl⟩) ?_ ?_
          rotate_left
          ·simp only[Act.put,List.setIfInBounds_toArray,List.set_cons_zero,List.set_cons_succ,i64_w,i32_w]
           rfl
          refine pure_ (i:=30) (N:=some 149) (v:=undef) (a':= ?_) #[true,true,true,true,true,true,true,true,true,true,true,true,true,true,true,true,true,true,true,true,true,true,true,true,true,true,true,true,true,true,true,false,false,false,false,false,false,false,false,false,false,false,false,false] rfl rfl (any_of HT_.out (by kernel_rfl)) (fun _ _ _ h=>h) (Or.inr ⟨by rfl,rfl⟩) ?_ ?_
          rotate_left
          ·simp only[Act.put,List.setIfInBounds_toArray,List.set_cons_zero,List.set_cons_succ,i64_w,i32_w]
           rfl
          refine pure_ (i:=31) (N:=some 150) (v:=undef) (a':= ?_) #[true,true,true,true,true,true,true,true,true,true,true,true,true,true,true,true,true,true,true,true,true,true,true,true,true,true,true,true,true,true,true,true,false,false,false,false,false,false,false,false,false,false,false,false] rfl rfl (any_of HT_.out (by kernel_rfl)) (fun _ _ _ h=>h) (Or.inr ⟨by rfl,rfl⟩) ?_ ?_
          rotate_left
          ·simp only[Act.put,List.setIfInBounds_toArray,List.set_cons_zero,List.set_cons_succ,i64_w,i32_w]
           rfl
          refine pure_ (i:=32) (N:=some 151) (v:=undef) (a':= ?_) #[true,true,true,true,true,true,true,true,true,true,true,true,true,true,true,true,true,true,true,true,true,true,true,true,true,true,true,true,true,true,true,true,true,false,false,false,false,false,false,false,false,false,false,false] rfl rfl (any_of HT_.out (by kernel_rfl)) (fun _ _ _ h=>h) (Or.inr ⟨by rfl,rfl⟩) ?_ ?_
          rotate_left
          ·simp only[Act.put,List.setIfInBounds_toArray,List.set_cons_zero,List.set_cons_succ,i64_w,i32_w]
           rfl
          refine pure_ (i:=33) (N:=some 152) (v:=undef) (a':= ?_) #[true,true,true,true,true,true,true,true,true,true,true,true,true,true,true,true,true,true,true,true,true,true,true,true,true,true,true,true,true,true,true,true,true,true,false,false,false,false,false,false,false,false,false,false] rfl rfl (any_of HT_.out (by kernel_rfl)) (fun _ _ _ h=>h) (Or.inr ⟨by rfl,rfl⟩) ?_ ?_
          rotate_left
          ·simp only[Act.put,List.setIfInBounds_toArray,List.set_cons_zero,List.set_cons_succ,i64_w,i32_w]
           rfl
          refine pure_ (i:=34) (N:=some 153) (v:=undef) (a':= ?_) #[true,true,true,true,true,true,true,true,true,true,true,true,true,true,true,true,true,true,true,true,true,true,true,true,true,true,true,true,true,true,true,true,true,true,true,false,false,false,false,false,false,false,false,false] rfl rfl (any_of HT_.out (by kernel_rfl)) (fun _ _ _ h=>h) (Or.inr ⟨by rfl,rfl⟩) ?_ ?_
          rotate_left
          ·simp only[Act.put,List.setIfInBounds_toArray,List.set_cons_zero,List.set_cons_succ,i64_w,i32_w]
           rfl
          refine pure_ (i:=35) (N:=some 154) (v:=undef) (a':= ?_) #[true,true,true,true,true,true,true,true,true,true,true,true,true,true,true,true,true,true,true,true,true,true,true,true,true,true,true,true,true,true,true,true,true,true,true,true,false,false,false,false,false,false,false,false] rfl rfl (any_of HT_.out (by kernel_rfl)) (fun _ _ _ h=>h) (Or.inr ⟨by rfl,rfl⟩) ?_ ?_
          rotate_left
          ·simp only[Act.put,List.setIfInBounds_toArray,List.set_cons_zero,List.set_cons_succ,i64_w,i32_w]
           rfl
          refine pure_ (i:=36) (N:=some 155) (v:=undef) (a':= ?_) #[true,true,true,true,true,true,true,true,true,true,true,true,true,true,true,true,true,true,true,true,true,true,true,true,true,true,true,true,true,true,true,true,true,true,true,true,true,false,false,false,false,false,false,false] rfl rfl (any_of HT_.out (by kernel_rfl)) (fun _ _ _ h=>h) (Or.inr ⟨by rfl,rfl⟩) ?_ ?_
          rotate_left
          ·simp only[Act.put,List.setIfInBounds_toArray,List.set_cons_zero,List.set_cons_succ,i64_w,i32_w]
           rfl
          refine pure_ (i:=37) (N:=some 156) (v:=undef) (a':= ?_) #[true,true,true,true,true,true,true,true,true,true,true,true,true,true,true,true,true,true,true,true,true,true,true,true,true,true,true,true,true,true,true,true,true,true,true,true,true,true,false,false,false,false,false,false] rfl rfl (any_of HT_.out (by kernel_rfl)) (fun _ _ _ h=>h) (Or.inr ⟨by rfl,rfl⟩) ?_ ?_
          rotate_left
          ·simp only[Act.put,List.setIfInBounds_toArray,List.set_cons_zero,List.set_cons_succ,i64_w,i32_w]
           rfl
          refine pure_ (i:=38) (N:=some 157) (v:=undef) (a':= ?_) #[true,true,true,true,true,true,true,true,true,true,true,true,true,true,true,true,true,true,true,true,true,true,true,true,true,true,true,true,true,true,true,true,true,true,true,true,true,true,true,false,false,false,false,false] rfl rfl (any_of HT_.out (by kernel_rfl)) (fun _ _ _ h=>h) (Or.inr ⟨by rfl,rfl⟩) ?_ ?_
          rotate_left
          ·simp only[Act.put,List.setIfInBounds_toArray,List.set_cons_zero,List.set_cons_succ,i64_w,i32_w]
           rfl
          refine pure_ (i:=39) (N:=some 158) (v:=undef) (a':= ?_) #[true,true,true,true,true,true,true,true,true,true,true,true,true,true,true,true,true,true,true,true,true,true,true,true,true,true,true,true,true,true,true,true,true,true,true,true,true,true,true,true,false,false,false,false] rfl rfl (any_of HT_.out (by kernel_rfl)) (fun _ _ _ h=>h) (Or.inr ⟨by rfl,rfl⟩) ?_ ?_
          rotate_left
          ·simp only[Act.put,List.setIfInBounds_toArray,List.set_cons_zero,List.set_cons_succ,i64_w,i32_w]
           rfl
          refine pure_ (i:=40) (N:=some 159) (v:=undef) (a':= ?_) #[true,true,true,true,true,true,true,true,true,true,true,true,true,true,true,true,true,true,true,true,true,true,true,true,true,true,true,true,true,true,true,true,true,true,true,true,true,true,true,true,true,false,false,false] rfl rfl (any_of HT_.out (by kernel_rfl)) (fun _ _ _ h=>h) (Or.inr ⟨by rfl,rfl⟩) ?_ ?_
          rotate_left
          ·simp only[Act.put,List.setIfInBounds_toArray,List.set_cons_zero,List.set_cons_succ,i64_w,i32_w]
           rfl
          refine pu 41 160 (bm 44 4398046511103) ?_;refine pu 42 161 (bm 44 8796093022207) ?_;refine pu 43 162 (bm 44 17592186044415) ?_;refine done_ (done_of HT_.out (by kernel_rfl)) ?_;try go_wp2
          (try simp only[← hl4_4])
          go_roundg k4
          case measure=>have:=HK1.out;have:=HK2.out;have:=HK3.out;have:=HK4.out;omega
          case rel=>exact⟨(Zi),(wrap64 (Zh+1)),(by first|rfl|(simp;done)|(simp[*];done)),H',⟨by have:=HK1.out;have:=HK2.out;have:=HK3.out;have:=HK4.out;omega⟩,⟨by(try simp only[hl4_4]);(with_reducible repeat(first|apply Yr|apply Yq|apply Yp));exact HO_4.out⟩,⟨HB.out⟩⟩
         as_aux_lemma=>
         rw[Yx c49] at H;have c49b0:(((rd_T61 Zi Ze).f1) == ((rd_T61 Zi (ji39)).f1))=true:=beq_iff_eq.mpr c49;have c49b1:(((rd_T61 Zi Ze).f1) != ((rd_T61 Zi (ji39)).f1))=false:=bne_eq_false_iff_eq.mpr c49;clear c49;by_cases c50:((rd_T61 Zi Ze).f0)<((rd_T61 Zi (ji39)).f0)
         rotate_left
         ·as_aux_lemma=>
          rw[Yy c50] at H;have c50b0:decide (((rd_T61 Zi Ze).f0)<((rd_T61 Zi (ji39)).f0))=false:=Yw c50;clear c50;have H':=Ya H;clear H;try go_wp2
          replace HO_4:=Ya (Yp HO_4.out);replace HB:=Ya (Yg HB.out);have p232:0≤(Ze:Int):=od;have q232:Ze<(Zi.length:Int):=od;obtain⟨Zq,e232,Vm,Vn,Vo⟩:=at_T61 (Kd.R_reads' HO_4.out).2.2 Ze p232 q232;cases e232;replace p232:=eq_true p232;replace q232:=eq_true q232;have p233:0≤((ji39):Int):=od;have q233:(ji39)<(Zi.length:Int):=od;obtain⟨ad233,e233,Vp,Vq,Vr⟩:=at_T61 (Kd.R_reads' HO_4.out).2.2 (ji39) p233 q233;obtain rfl:Zq=ad233:=(by injection e233);replace p233:=eq_true p233;replace q233:=eq_true q233;have p238:0≤(Ze:Int):=od;have q238:Ze<(Zi.length:Int):=od;obtain⟨ad238,e238,Ji,Jj,Jk⟩:=at_T61 (Kd.R_reads' HO_4.out).2.2 Ze p238 q238;obtain rfl:Zq=ad238:=(by injection e238);replace p238:=eq_true p238;replace q238:=eq_true q238;have p239:0≤((ji39):Int):=od;have q239:(ji39)<(Zi.length:Int):=od;obtain⟨ad239,e239,Jl,Jm,Jn⟩:=at_T61 (Kd.R_reads' HO_4.out).2.2 (ji39) p239 q239;obtain rfl:Zq=ad239:=(by injection e239);replace p239:=eq_true p239;replace q239:=eq_true q239;have p240:0≤(Ze:Int):=od;have q240:Ze<(Zi.length:Int):=od;obtain⟨ad240,e240,hx240_0,hx240_1,hx240_2⟩:=at_T61 (Kd.R_reads' HO_4.out).2.2 Ze p240 q240;obtain rfl:Zq=ad240:=(by injection e240);replace p240:=eq_true p240;replace q240:=eq_true q240;have p241:0≤((ji39):Int):=od;have q241:(ji39)<(Zi.length:Int):=od;obtain⟨ad241,e241,hx241_0,hx241_1,hx241_2⟩:=at_T61 (Kd.R_reads' HO_4.out).2.2 (ji39) p241 q241;obtain rfl:Zq=ad241:=(by injection e241);replace p241:=eq_true p241;replace q241:=eq_true q241;refine start_ (n:=44) (S:=fun w'=>w'.cell? (Zq.add ((Ze).toNat * 3))=some (.int .i64 ((rd_T61 Zi Ze).f0))∧w'.cell? ⟨(Zq.add ((Ze).toNat * 3)).block,(Zq.add ((Ze).toNat * 3)).off+1,none⟩=some (.int .i64 ((rd_T61 Zi Ze).f1))∧w'.cell? ⟨(Zq.add ((Ze).toNat * 3)).block,(Zq.add ((Ze).toNat * 3)).off+2,none⟩=some (.int .i64 ((rd_T61 Zi Ze).f2))∧w'.cell? (Zq.add (((ji39)).toNat * 3))=some (.int .i64 ((rd_T61 Zi (ji39)).f0))∧w'.cell? ⟨(Zq.add (((ji39)).toNat * 3)).block,(Zq.add (((ji39)).toNat * 3)).off+1,none⟩=some (.int .i64 ((rd_T61 Zi (ji39)).f1))∧w'.cell? ⟨(Zq.add (((ji39)).toNat * 3)).block,(Zq.add (((ji39)).toNat * 3)).off+2,none⟩=some (.int .i64 ((rd_T61 Zi (ji39)).f2))∧w'.cell? (Zq.add ((Ze).toNat * 3))=some (.int .i64 ((rd_T61 Zi Ze).f0))∧w'.cell? ⟨(Zq.add ((Ze).toNat * 3)).block,(Zq.add ((Ze).toNat * 3)).off+1,none⟩=some (.int .i64 ((rd_T61 Zi Ze).f1))∧w'.cell? ⟨(Zq.add ((Ze).toNat * 3)).block,(Zq.add ((Ze).toNat * 3)).off+2,none⟩=some (.int .i64 ((rd_T61 Zi Ze).f2))∧w'.cell? (Zq.add (((ji39)).toNat * 3))=some (.int .i64 ((rd_T61 Zi (ji39)).f0))∧w'.cell? ⟨(Zq.add (((ji39)).toNat * 3)).block,(Zq.add (((ji39)).toNat * 3)).off+1,none⟩=some (.int .i64 ((rd_T61 Zi (ji39)).f1))∧w'.cell? ⟨(Zq.add (((ji39)).toNat * 3)).block,(Zq.add (((ji39)).toNat * 3)).off+2,none⟩=some (.int .i64 ((rd_T61 Zi (ji39)).f2))∧w'.cell? (Zq.add ((Ze).toNat * 3))=some (.int .i64 ((rd_T61 Zi Ze).f0))∧w'.cell? ⟨(Zq.add ((Ze).toNat * 3)).block,(Zq.add ((Ze).toNat * 3)).off+1,none⟩=some (.int .i64 ((rd_T61 Zi Ze).f1))∧w'.cell? ⟨(Zq.add ((Ze).toNat * 3)).block,(Zq.add ((Ze).toNat * 3)).off+2,none⟩=some (.int .i64 ((rd_T61 Zi Ze).f2))∧w'.cell? (Zq.add (((ji39)).toNat * 3))=some (.int .i64 ((rd_T61 Zi (ji39)).f0))∧w'.cell? ⟨(Zq.add (((ji39)).toNat * 3)).block,(Zq.add (((ji39)).toNat * 3)).off+1,none⟩=some (.int .i64 ((rd_T61 Zi (ji39)).f1))∧w'.cell? ⟨(Zq.add (((ji39)).toNat * 3)).block,(Zq.add (((ji39)).toNat * 3)).off+2,none⟩=some (.int .i64 ((rd_T61 Zi (ji39)).f2))) (ds:=[]) #[false,false,false,false,false,false,false,false,false,false,false,false,false,false,false,false,false,false,false,false,false,false,false,false,false,false,false,false,false,false,false,false,false,false,false,false,false,false,false,false,false,false,false,false] (by kernel_rfl) rfl rfl ⟨Vm,Vn,Vo,Vp,Vq,Vr,Ji,Jj,Jk,Jl,Jm,Jn,hx240_0,hx240_1,hx240_2,hx241_0,hx241_1,hx241_2⟩ (fun hHeld=> ?_);refine with_tabW ebbtideref03_Moves.tab23 ebbtideref03_Moves.bits23 (fun HT_ HW_=> ?_);generalize wr.drew=w57 at HO_4 HB Vm Vn Vo Vp Vq Vr Ji Jj Jk Jl Jm Jn hx240_0 hx240_1 hx240_2 hx241_0 hx241_1 hx241_2 hHeld ⊢;refine pu 0 119 (bm 44 1) ?_;refine pu 1 120 (bm 44 3) ?_;refine pu 2 121 (bm 44 7) ?_;refine pu 3 122 (bm 44 15) ?_;refine pu 4 123 (bm 44 31) ?_;refine pu 5 124 (bm 44 63) ?_;refine pu 6 125 (bm 44 127) ?_;refine pu 8 127 (bm 44 383) ?_;refine pu 9 128 (bm 44 895) ?_;refine pu 10 129 (bm 44 1919) ?_;refine pu 11 130 (bm 44 3967) ?_;refine pu 12 131 (bm 44 8063) ?_;refine ta 7 126 (bm 44 8191) hHeld ?_;refine ta 13 132 (bm 44 16383) hHeld ?_;refine pu 14 133 (bm 44 32767) ?_;refine pu 15 134 (bm 44 65535) ?_;refine pu 16 135 (bm 44 131071) ?_;refine pu 17 136 (bm 44 262143) ?_;refine pu 18 137 (bm 44 524287) ?_;refine pu 19 138 (bm 44 1048575) ?_;refine pu 21 140 (bm 44 3145727) ?_;refine pu 22 141 (bm 44 7340031) ?_;refine pu 23 142 (bm 44 15728639) ?_;refine pu 24 143 (bm 44 32505855) ?_;refine pu 25 144 (bm 44 66060287) ?_;refine ta 20 139 (bm 44 67108863) hHeld ?_;refine ta 26 145 (bm 44 134217727) hHeld ?_;refine pu 27 146 (bm 44 268435455) ?_;refine pu 28 147 (bm 44 536870911) ?_;refine pu 29 148 (bm 44 1073741823) ?_;refine pu 30 149 (bm 44 2147483647) ?_;refine pu 31 150 (bm 44 4294967295) ?_;refine pu 32 151 (bm 44 8589934591) ?_;refine pu 34 153 (bm 44 25769803775) ?_;refine pu 35 154 (bm 44 60129542143) ?_;refine pu 36 155 (bm 44 128849018879) ?_;refine pu 37 156 (bm 44 266287972351) ?_;refine pu 38 157 (bm 44 541165879295) ?_;refine ta 33 152 (bm 44 549755813887) hHeld ?_;refine ta 39 158 (bm 44 1099511627775) hHeld ?_;refine pu 40 159 (bm 44 2199023255551) ?_;refine pu 41 160 (bm 44 4398046511103) ?_;refine pu 42 161 (bm 44 8796093022207) ?_;refine pu 43 162 (bm 44 17592186044415) ?_;refine done_ (done_of HT_.out (by kernel_rfl)) ?_;try go_wp2
          (try simp only[← hl4_4])
          go_roundg k4
          case measure=>have:=HK1.out;have:=HK2.out;have:=HK3.out;have:=HK4.out;omega
          case rel=>exact⟨(Zi),(wrap64 (Zh+1)),(by first|rfl|(simp;done)|(simp[*];done)),H',⟨by have:=HK1.out;have:=HK2.out;have:=HK3.out;have:=HK4.out;omega⟩,⟨by(try simp only[hl4_4]);(with_reducible repeat(first|apply Yr|apply Yq|apply Yp));exact HO_4.out⟩,⟨HB.out⟩⟩
         as_aux_lemma=>
         rw[Yx c50] at H;have c50b0:decide (((rd_T61 Zi Ze).f0)<((rd_T61 Zi (ji39)).f0))=true:=Yv c50;clear c50;obtain⟨y244,hy244⟩: ∃ y_:List (S61),y_=(Zi.set (Ze:Int).toNat (⟨(rd_T61 Zi (ji39)).f0,(rd_T61 Zi (ji39)).f1,(rd_T61 Zi (ji39)).f2⟩:S61)):=⟨_,rfl⟩;rw[← hy244] at H;have Ny244:=Ya hy244;clear hy244;obtain⟨y245,hy245⟩: ∃ y_:List (S61),y_=(y244.set ((ji39):Int).toNat (⟨(rd_T61 Zi Ze).f0,(rd_T61 Zi Ze).f1,(rd_T61 Zi Ze).f2⟩:S61)):=⟨_,rfl⟩;rw[← hy245] at H;have Ny245:=Ya hy245;clear hy245;have H':=Ya H;clear H;try go_wp2
         replace HO_4:=Ya (Yp HO_4.out);replace HB:=Ya (Yg HB.out);have p232:0≤(Ze:Int):=od;have q232:Ze<(Zi.length:Int):=od;obtain⟨Zq,e232,Vm,Vn,Vo⟩:=at_T61 (Kd.R_reads' HO_4.out).2.2 Ze p232 q232;cases e232;replace p232:=eq_true p232;replace q232:=eq_true q232;have p233:0≤((ji39):Int):=od;have q233:(ji39)<(Zi.length:Int):=od;obtain⟨ad233,e233,Vp,Vq,Vr⟩:=at_T61 (Kd.R_reads' HO_4.out).2.2 (ji39) p233 q233;obtain rfl:Zq=ad233:=(by injection e233);replace p233:=eq_true p233;replace q233:=eq_true q233;have p238:0≤(Ze:Int):=od;have q238:Ze<(Zi.length:Int):=od;obtain⟨ad238,e238,Ji,Jj,Jk⟩:=at_T61 (Kd.R_reads' HO_4.out).2.2 Ze p238 q238;obtain rfl:Zq=ad238:=(by injection e238);replace p238:=eq_true p238;replace q238:=eq_true q238;have p239:0≤((ji39):Int):=od;have q239:(ji39)<(Zi.length:Int):=od;obtain⟨ad239,e239,Jl,Jm,Jn⟩:=at_T61 (Kd.R_reads' HO_4.out).2.2 (ji39) p239 q239;obtain rfl:Zq=ad239:=(by injection e239);replace p239:=eq_true p239;replace q239:=eq_true q239;have p240:0≤(Ze:Int):=od;have q240:Ze<(Zi.length:Int):=od;obtain⟨ad240,e240,hx240_0,hx240_1,hx240_2⟩:=at_T61 (Kd.R_reads' HO_4.out).2.2 Ze p240 q240;obtain rfl:Zq=ad240:=(by injection e240);replace p240:=eq_true p240;replace q240:=eq_true q240;have p241:0≤((ji39):Int):=od;have q241:(ji39)<(Zi.length:Int):=od;obtain⟨ad241,e241,hx241_0,hx241_1,hx241_2⟩:=at_T61 (Kd.R_reads' HO_4.out).2.2 (ji39) p241 q241;obtain rfl:Zq=ad241:=(by injection e241);replace p241:=eq_true p241;replace q241:=eq_true q241;refine start_ (n:=44) (S:=fun w'=>w'.cell? (Zq.add ((Ze).toNat * 3))=some (.int .i64 ((rd_T61 Zi Ze).f0))∧w'.cell? ⟨(Zq.add ((Ze).toNat * 3)).block,(Zq.add ((Ze).toNat * 3)).off+1,none⟩=some (.int .i64 ((rd_T61 Zi Ze).f1))∧w'.cell? ⟨(Zq.add ((Ze).toNat * 3)).block,(Zq.add ((Ze).toNat * 3)).off+2,none⟩=some (.int .i64 ((rd_T61 Zi Ze).f2))∧w'.cell? (Zq.add (((ji39)).toNat * 3))=some (.int .i64 ((rd_T61 Zi (ji39)).f0))∧w'.cell? ⟨(Zq.add (((ji39)).toNat * 3)).block,(Zq.add (((ji39)).toNat * 3)).off+1,none⟩=some (.int .i64 ((rd_T61 Zi (ji39)).f1))∧w'.cell? ⟨(Zq.add (((ji39)).toNat * 3)).block,(Zq.add (((ji39)).toNat * 3)).off+2,none⟩=some (.int .i64 ((rd_T61 Zi (ji39)).f2))∧w'.cell? (Zq.add ((Ze).toNat * 3))=some (.int .i64 ((rd_T61 Zi Ze).f0))∧w'.cell? ⟨(Zq.add ((Ze).toNat * 3)).block,(Zq.add ((Ze).toNat * 3)).off+1,none⟩=some (.int .i64 ((rd_T61 Zi Ze).f1))∧w'.cell? ⟨(Zq.add ((Ze).toNat * 3)).block,(Zq.add ((Ze).toNat * 3)).off+2,none⟩=some (.int .i64 ((rd_T61 Zi Ze).f2))∧w'.cell? (Zq.add (((ji39)).toNat * 3))=some (.int .i64 ((rd_T61 Zi (ji39)).f0))∧w'.cell? ⟨(Zq.add (((ji39)).toNat * 3)).block,(Zq.add (((ji39)).toNat * 3)).off+1,none⟩=some (.int .i64 ((rd_T61 Zi (ji39)).f1))∧w'.cell? ⟨(Zq.add (((ji39)).toNat * 3)).block,(Zq.add (((ji39)).toNat * 3)).off+2,none⟩=some (.int .i64 ((rd_T61 Zi (ji39)).f2))∧w'.cell? (Zq.add ((Ze).toNat * 3))=some (.int .i64 ((rd_T61 Zi Ze).f0))∧w'.cell? ⟨(Zq.add ((Ze).toNat * 3)).block,(Zq.add ((Ze).toNat * 3)).off+1,none⟩=some (.int .i64 ((rd_T61 Zi Ze).f1))∧w'.cell? ⟨(Zq.add ((Ze).toNat * 3)).block,(Zq.add ((Ze).toNat * 3)).off+2,none⟩=some (.int .i64 ((rd_T61 Zi Ze).f2))∧w'.cell? (Zq.add (((ji39)).toNat * 3))=some (.int .i64 ((rd_T61 Zi (ji39)).f0))∧w'.cell? ⟨(Zq.add (((ji39)).toNat * 3)).block,(Zq.add (((ji39)).toNat * 3)).off+1,none⟩=some (.int .i64 ((rd_T61 Zi (ji39)).f1))∧w'.cell? ⟨(Zq.add (((ji39)).toNat * 3)).block,(Zq.add (((ji39)).toNat * 3)).off+2,none⟩=some (.int .i64 ((rd_T61 Zi (ji39)).f2))) (ds:=[]) #[false,false,false,false,false,false,false,false,false,false,false,false,false,false,false,false,false,false,false,false,false,false,false,false,false,false,false,false,false,false,false,false,false,false,false,false,false,false,false,false,false,false,false,false] (by kernel_rfl) rfl rfl ⟨Vm,Vn,Vo,Vp,Vq,Vr,Ji,Jj,Jk,Jl,Jm,Jn,hx240_0,hx240_1,hx240_2,hx241_0,hx241_1,hx241_2⟩ (fun hHeld=> ?_);refine with_tabW ebbtideref03_Moves.tab23 ebbtideref03_Moves.bits23 (fun HT_ HW_=> ?_);generalize wr.drew=w53 at HO_4 HB Vm Vn Vo Vp Vq Vr Ji Jj Jk Jl Jm Jn hx240_0 hx240_1 hx240_2 hx241_0 hx241_1 hx241_2 hHeld ⊢;refine pu 0 119 (bm 44 1) ?_;refine pu 1 120 (bm 44 3) ?_;refine pu 2 121 (bm 44 7) ?_;refine pu 3 122 (bm 44 15) ?_;refine pu 4 123 (bm 44 31) ?_;refine pu 5 124 (bm 44 63) ?_;refine pu 6 125 (bm 44 127) ?_;refine pu 8 127 (bm 44 383) ?_;refine pu 9 128 (bm 44 895) ?_;refine pu 10 129 (bm 44 1919) ?_;refine pu 11 130 (bm 44 3967) ?_;refine pu 12 131 (bm 44 8063) ?_;refine ta 7 126 (bm 44 8191) hHeld ?_;refine ta 13 132 (bm 44 16383) hHeld ?_;refine pu 14 133 (bm 44 32767) ?_;refine pu 15 134 (bm 44 65535) ?_;refine pu 16 135 (bm 44 131071) ?_;refine pu 17 136 (bm 44 262143) ?_;refine pu 18 137 (bm 44 524287) ?_;refine pu 19 138 (bm 44 1048575) ?_;refine pu 21 140 (bm 44 3145727) ?_;refine pu 22 141 (bm 44 7340031) ?_;refine pu 23 142 (bm 44 15728639) ?_;refine pu 24 143 (bm 44 32505855) ?_;refine pu 25 144 (bm 44 66060287) ?_;refine ta 20 139 (bm 44 67108863) hHeld ?_;refine ta 26 145 (bm 44 134217727) hHeld ?_;refine pu 27 146 (bm 44 268435455) ?_;refine pu 28 147 (bm 44 536870911) ?_;refine pu 29 148 (bm 44 1073741823) ?_;refine pu 30 149 (bm 44 2147483647) ?_;refine pu 31 150 (bm 44 4294967295) ?_;refine pu 32 151 (bm 44 8589934591) ?_;refine pu 34 153 (bm 44 25769803775) ?_;refine pu 35 154 (bm 44 60129542143) ?_;refine pu 36 155 (bm 44 128849018879) ?_;refine pu 37 156 (bm 44 266287972351) ?_;refine pu 38 157 (bm 44 541165879295) ?_;refine ta 33 152 (bm 44 549755813887) hHeld ?_;refine ta 39 158 (bm 44 1099511627775) hHeld ?_;refine pu 40 159 (bm 44 2199023255551) ?_;refine pu 41 160 (bm 44 4398046511103) ?_;refine pu 42 161 (bm 44 8796093022207) ?_;refine pu 43 162 (bm 44 17592186044415) ?_;refine done_ (done_of HT_.out (by kernel_rfl)) ?_;try go_wp2
         replace HO_4:=Ya (Yp HO_4.out);replace HB:=Ya (Yg HB.out);have p242:0≤((ji39):Int):=od;have q242:(ji39)<(Zi.length:Int):=od;obtain⟨ad242,e242,hx242_0,hx242_1,hx242_2⟩:=at_T61 (Kd.R_reads' HO_4.out).2.2 (ji39) p242 q242;obtain rfl:Zq=ad242:=(by injection e242);replace p242:=eq_true p242;replace q242:=eq_true q242;have p243:0≤(Ze:Int):=od;have q243:Ze<(Zi.length:Int):=od;obtain⟨ad243,e243,hx243_0,hx243_1,hx243_2⟩:=at_T61 (Kd.R_reads' HO_4.out).2.2 Ze p243 q243;obtain rfl:Zq=ad243:=(by injection e243);replace p243:=eq_true p243;replace q243:=eq_true q243;have p51:0≤(Ze:Int):=od;have q51:(Ze:Int)<((Zi.length:Int):Int):=od;obtain⟨go51,co51,eo51,gb51,gl51,cl51,HG51⟩:=Kd.R_form HO_4.out (by omega)
         (first|cases eo51|(injection eo51 with ea_ en_ ec_;(first|subst ea_|(injection ea_ with ea_;subst ea_));subst ec_;clear en_))
         have GB51:=Ya gb51;have GG51:=Ya HG51;clear gb51 gl51 HG51
         (first|simp only[add_plain] at Vm|skip)
         (first|simp only[add_plain] at Vn|skip)
         (first|simp only[add_plain] at Vo|skip)
         (first|simp only[add_plain] at Vp|skip)
         (first|simp only[add_plain] at Vq|skip)
         (first|simp only[add_plain] at Vr|skip)
         (first|simp only[add_plain] at Ji|skip)
         (first|simp only[add_plain] at Jj|skip)
         (first|simp only[add_plain] at Jk|skip)
         (first|simp only[add_plain] at Jl|skip)
         (first|simp only[add_plain] at Jm|skip)
         (first|simp only[add_plain] at Jn|skip)
         (first|simp only[add_plain] at hx240_0|skip)
         (first|simp only[add_plain] at hx240_1|skip)
         (first|simp only[add_plain] at hx240_2|skip)
         (first|simp only[add_plain] at hx241_0|skip)
         (first|simp only[add_plain] at hx241_1|skip)
         (first|simp only[add_plain] at hx241_2|skip)
         (first|simp only[add_plain] at hx242_0|skip)
         (first|simp only[add_plain] at hx242_1|skip)
         (first|simp only[add_plain] at hx242_2|skip)
         (first|simp only[add_plain] at hx243_0|skip)
         (first|simp only[add_plain] at hx243_1|skip)
         (first|simp only[add_plain] at hx243_2|skip)
         obtain⟨ce51,hcl51,hM51,hcc51,hfr51⟩:=Kd.R_elem HO_4.out z61 (Ze:Int) p51 q51;obtain rfl:=k61_openM hM51;have hx51_0:World.cell? _ ⟨go51,(Ze:Int).toNat * 3,none⟩=some (.int .i64 ((rd_T61 Zi Ze).f0)):=hcc51 0 _ rfl;have hx51_1:World.cell? _ ⟨go51,(Ze:Int).toNat * 3+1,none⟩=some (.int .i64 ((rd_T61 Zi Ze).f1)):=hcc51 1 _ rfl;have hx51_2:World.cell? _ ⟨go51,(Ze:Int).toNat * 3+2,none⟩=some (.int .i64 ((rd_T61 Zi Ze).f2)):=hcc51 2 _ rfl;have hf51_0:World.frozen? _ ⟨go51,(Ze:Int).toNat * 3,none⟩=false:=hfr51 0;have hf51_1:World.frozen? _ ⟨go51,(Ze:Int).toNat * 3+1,none⟩=false:=hfr51 1;have hf51_2:World.frozen? _ ⟨go51,(Ze:Int).toNat * 3+2,none⟩=false:=hfr51 2;clear hcl51 hcc51 hfr51 hM51;replace p51:=eq_true p51;replace q51:=eq_true q51;obtain⟨ce55,hcl55,hM55,hcc55,hfr55⟩:=Kd.R_elem HO_4.out z61 (Ze:Int) (Yu (by first|(with_reducible assumption)|assumption)) (by have h_:(Ze:Int)<((Zi.length:Int):Int):=od;first|exact h_|(have e_:=(Kd.R_reads' HO_4.out).1;omega)|simpa using h_);obtain rfl:=k61_openM hM55;have HP55:=(Kd.R_seg HO_4.out (Ze:Int) (Yu (by first|(with_reducible assumption)|assumption)) (by have h_:(Ze:Int)<((Zi.length:Int):Int):=od;first|exact h_|(have e_:=(Kd.R_reads' HO_4.out).1;omega)|simpa using h_) (seg:=[.int .i64 ((rd_T61 Zi (ji39)).f0), .int .i64 ((rd_T61 Zi (ji39)).f1), .int .i64 ((rd_T61 Zi (ji39)).f2)]) (j:=0) hcl55 hcc55 (show 3≤3 from by decide) (x':=(⟨(rd_T61 Zi (ji39)).f0,(rd_T61 Zi (ji39)).f1,(rd_T61 Zi (ji39)).f2⟩:S61)) (k61_mkM _ _ _ (⟨(rd_T61 Zi (ji39)).f0,(rd_T61 Zi (ji39)).f1,(rd_T61 Zi (ji39)).f2⟩:S61) ) (fun _ hk=>hk)).1;rw[← Ny244.out] at HP55;have HQ55:=Ya HP55;clear hcl55 hcc55 hfr55 hM55 HP55;have p52:0≤((ji39):Int):=od;have q52:((ji39):Int)<((Zi.length:Int):Int):=od;obtain⟨ce52,hcl52,hM52,hcc52,hfr52⟩:=Kd.R_elem HQ55.out z61 ((ji39):Int) p52 q52;obtain rfl:=k61_openM hM52;have hx52_0:World.cell? _ ⟨go51,((ji39):Int).toNat * 3,none⟩=some (.int .i64 ((rd_T61 y244 (ji39)).f0)):=hcc52 0 _ rfl;have hx52_1:World.cell? _ ⟨go51,((ji39):Int).toNat * 3+1,none⟩=some (.int .i64 ((rd_T61 y244 (ji39)).f1)):=hcc52 1 _ rfl;have hx52_2:World.cell? _ ⟨go51,((ji39):Int).toNat * 3+2,none⟩=some (.int .i64 ((rd_T61 y244 (ji39)).f2)):=hcc52 2 _ rfl;have hf52_0:World.frozen? _ ⟨go51,((ji39):Int).toNat * 3,none⟩=false:=hfr52 0;have hf52_1:World.frozen? _ ⟨go51,((ji39):Int).toNat * 3+1,none⟩=false:=hfr52 1;have hf52_2:World.frozen? _ ⟨go51,((ji39):Int).toNat * 3+2,none⟩=false:=hfr52 2;clear hcl52 hcc52 hfr52 hM52;replace p52:=eq_true p52;replace q52:=eq_true q52;obtain⟨ce56,hcl56,hM56,hcc56,hfr56⟩:=Kd.R_elem HQ55.out z61 ((ji39):Int) (Yu (by first|(with_reducible assumption)|assumption)) (by have h_:((ji39):Int)<((Zi.length:Int):Int):=od;first|exact h_|(have e_:=(Kd.R_reads' HO_4.out).1;omega)|simpa using h_);obtain rfl:=k61_openM hM56;have HP56:=(Kd.R_seg HQ55.out ((ji39):Int) (Yu (by first|(with_reducible assumption)|assumption)) (by have h_:((ji39):Int)<((Zi.length:Int):Int):=od;first|exact h_|(have e_:=(Kd.R_reads' HO_4.out).1;omega)|simpa using h_) (seg:=[.int .i64 ((rd_T61 Zi Ze).f0), .int .i64 ((rd_T61 Zi Ze).f1), .int .i64 ((rd_T61 Zi Ze).f2)]) (j:=0) hcl56 hcc56 (show 3≤3 from by decide) (x':=(⟨(rd_T61 Zi Ze).f0,(rd_T61 Zi Ze).f1,(rd_T61 Zi Ze).f2⟩:S61)) (k61_mkM _ _ _ (⟨(rd_T61 Zi Ze).f0,(rd_T61 Zi Ze).f1,(rd_T61 Zi Ze).f2⟩:S61) ) (fun _ hk=>hk)).1;rw[← Ny245.out] at HP56;have HQ56:=Ya HP56;clear hcl56 hcc56 hfr56 hM56 HP56;refine start_ (n:=18) (S:=fun w'=>w'.cell? ⟨go51,(((ji39)).toNat * 3),none⟩=some (.int .i64 ((rd_T61 Zi (ji39)).f0))∧w'.cell? ⟨go51,(((ji39)).toNat * 3)+1,none⟩=some (.int .i64 ((rd_T61 Zi (ji39)).f1))∧w'.cell? ⟨go51,(((ji39)).toNat * 3)+2,none⟩=some (.int .i64 ((rd_T61 Zi (ji39)).f2))∧w'.cell? ⟨go51,((Ze).toNat * 3),none⟩=some (.int .i64 ((rd_T61 Zi Ze).f0))∧w'.cell? ⟨go51,((Ze).toNat * 3)+1,none⟩=some (.int .i64 ((rd_T61 Zi Ze).f1))∧w'.cell? ⟨go51,((Ze).toNat * 3)+2,none⟩=some (.int .i64 ((rd_T61 Zi Ze).f2))) (ds:=[15,17]) #[false,false,false,false,false,false,false,false,false,false,false,false,false,false,false,false,false,false] (by kernel_rfl) rfl rfl ⟨hx242_0,hx242_1,hx242_2,hx243_0,hx243_1,hx243_2⟩ (fun hHeld=> ?_);refine with_tabW ebbtideref03_Moves.tab25 ebbtideref03_Moves.bits25 (fun HT_ HW_=> ?_);generalize w53.drew=w54 at HO_4 HB GG51 HQ55 HQ56 hf51_0 hf51_1 hf51_2 hf52_0 hf52_1 hf52_2 Vm Vn Vo Vp Vq Vr Ji Jj Jk Jl Jm Jn hx240_0 hx240_1 hx240_2 hx241_0 hx241_1 hx241_2 hx242_0 hx242_1 hx242_2 hx243_0 hx243_1 hx243_2 hx51_0 hx51_1 hx51_2 hx52_0 hx52_1 hx52_2 hHeld ⊢;refine pu 0 165 (bm 18 1) ?_;refine pu 1 166 (bm 18 3) ?_;refine pu 2 167 (bm 18 7) ?_;refine pu 3 168 (bm 18 15) ?_;refine pu 4 169 (bm 18 31) ?_;refine pu 5 170 (bm 18 63) ?_;refine pu 6 171 (bm 18 127) ?_;refine pu 7 172 (bm 18 255) ?_;refine pu 8 173 (bm 18 511) ?_;refine pu 10 175 (bm 18 1535) ?_;refine pu 11 176 (bm 18 3583) ?_;refine pu 12 177 (bm 18 7679) ?_;refine ta 9 174 (bm 18 8191) hHeld ?_;refine ta 13 178 (bm 18 16383) hHeld ?_;refine pu 14 179 (bm 18 32767) ?_;obtain⟨_,_,_,_,hfrj_⟩:=Kd.R_elem HO_4.out z61 (ji39:Int) (by first|assumption|exact of_eq_true (by assumption)) (by first|assumption|exact of_eq_true (by assumption));have hfj0_:World.frozen? _ ⟨go51,ji39.toNat * 3,none⟩=false:=hfrj_ 0;have hfj1_:World.frozen? _ ⟨go51,ji39.toNat * 3+1,none⟩=false:=hfrj_ 1;have hfj2_:World.frozen? _ ⟨go51,ji39.toNat * 3+2,none⟩=false:=hfrj_ 2;clear hfrj_;have hne_:Ze.toNat≠ji39.toNat:=by
          have a1:0≤Ze:=by first|assumption|exact of_eq_true (by assumption)
          have a2:0≤ji39:=by first|assumption|exact of_eq_true (by assumption)
          have a3:wrap64 (Ze - 1)=ji39:=by first|assumption|exact Aside0.out (by assumption)|(rw[← i64_w];assumption)
          unfold wrap64 at a3;omega
         have hn1_:=Ne.symm hne_;have hn2_:Ze.toNat * 3≠ji39.toNat * 3:=by omega
         have hn3_:=Ne.symm hn2_;have hn4_:Ze.toNat * 3≠ji39.toNat * 3+1:=by omega
         have hn5_:=Ne.symm hn4_;have hn6_:Ze.toNat * 3≠ji39.toNat * 3+2:=by omega
         have hn7_:=Ne.symm hn6_;have hn8_:Ze.toNat * 3+1≠ji39.toNat * 3:=by omega
         have hn9_:=Ne.symm hn8_;have hn10_:Ze.toNat * 3+1≠ji39.toNat * 3+1:=by omega
         have hn11_:=Ne.symm hn10_;have hn12_:Ze.toNat * 3+1≠ji39.toNat * 3+2:=by omega
         have hn13_:=Ne.symm hn12_;have hn14_:Ze.toNat * 3+2≠ji39.toNat * 3:=by omega
         have hn15_:=Ne.symm hn14_;have hn16_:Ze.toNat * 3+2≠ji39.toNat * 3+1:=by omega
         have hn17_:=Ne.symm hn16_;have hn18_:Ze.toNat * 3+2≠ji39.toNat * 3+2:=by omega
         have hn19_:=Ne.symm hn18_;refine last_ (i:=15) (N:=none) #[true,true,true,true,true,true,true,true,true,true,true,true,true,true,true,true,false,false] rfl rfl (one_of HT_.out (by kernel_rfl)) (by decide) (fun K hK=> ?_);refine skip_ (w1:= ?_) (by rfl) rfl ?_ ?_
         rotate_left
         ·go_simp
          rfl
         refine hK.out _ _ ?_;clear hK K;refine pu 16 180 (bm 18 131071) ?_;refine last_ (i:=17) (N:=none) #[true,true,true,true,true,true,true,true,true,true,true,true,true,true,true,true,true,true] rfl rfl (one_of HT_.out (by kernel_rfl)) (by decide) (fun K hK=> ?_);refine skip_ (w1:= ?_) (by rfl) rfl ?_ ?_
         rotate_left
         ·go_simp
          rfl
         refine hK.out _ _ ?_;clear hK K;refine done_ (done_of HT_.out (by kernel_rfl)) ?_;try go_wp2
         (try simp only[← hl4_4])
         go_roundg k4
         case measure=>have:=HK1.out;have:=HK2.out;have:=HK3.out;have:=HK4.out;omega
         case rel=>exact⟨(y245),(ji39),(by first|rfl|(simp;done)|(simp only[← hji39]<;>(first|rfl|simp))|(simp[*];done)),H',⟨by have:=HK1.out;have:=HK2.out;have:=HK3.out;have:=HK4.out;omega⟩,⟨by(try simp only[hl4_4]);(with_reducible repeat(first|apply Yr|apply Yq|apply Yp));exact HQ56.out⟩,⟨bl⟩⟩
end P
end Go.Proofs.Ytjaoknhhoicigaa
