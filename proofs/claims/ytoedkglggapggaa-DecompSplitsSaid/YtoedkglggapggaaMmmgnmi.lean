/- What the law's row needs of these texts, taken out of them by wip/tool/mini.py: QRefClean P96 QCleanWalk QAwake13 QDecSplits P99 QOpen QLDecSplits. -/
import Derived.Test.YtoedkglggapggaaMknlbdi
import Derived.Test.YtoedkglggapggaaMbhckag
import Derived.Test.YtoedkglggapggaaMohcidc
import Derived.Lib.LazyBuf
import Derived.Deep.RegionHeld3
import Derived.Deep.DeepCutAuto
import Derived.Test.YtoedkglggapggaaMmpahga
import Derived.Test.YtoedkglggapggaaVeoepfc
import Derived.Deep.Slices
import Derived.Deep.Fields
import Derived.ChangeSame
import Derived.ChangeArms
import Derived.OpenShut
set_option linter.unusedVariables false
set_option linter.unusedSimpArgs false
open Go.RowKit Go.Proofs.YtoedkglggapggaaW.PrintWords Go.Proofs.YtoedkglggapggaaW.PrintLast Go.Proofs.YtoedkglggapggaaW.PrintMore
namespace Go.Proofs.Ytoedkglggapggaa
namespace Q
open P
open H (posN Right lessA Link chF cycF splitR cleanR Parts SplitOk IsFlow tot tot_cons lessA_len lessA_get split_ok split_no split_parts go_len)
theorem link_len {l:List S50} {G:List Int} {a b:Int} {ax:List Int} (hl:l.length≤200) (h:Link l G a b ax):ax.length≤200:=by
 have h1:=H.pigeonN l.length (ax.map Int.toNat) (by
  refine List.pairwise_map.2 ?_;have h2:=h.go.of;refine(List.Pairwise.and_mem.1 h.nodup).imp fun {x y} hxy e=>hxy.2.2 ?_
  have:=h2 x hxy.1;have:=h2 y hxy.2.1;omega) (fun x hx=>by obtain⟨y,hy,rfl⟩:=List.mem_map.1 hx;have:=h.go.of y hy;omega)
 rw[List.length_map] at h1;omega
def putA (X:List Int) (cs:List S47):List Int:=cs.foldl (fun X c=>lessA X (-c.f1) c.f0) X
theorem putA_len: ∀ (cs:List S47) (X:List Int),(putA X cs).length=X.length
 |[],X=>rfl
 |c::cs,X=>by
  show (putA (lessA X (-c.f1) c.f0) cs).length=_;rw[putA_len cs,lessA_len]
theorem putA_get (j:Nat): ∀ (cs:List S47) (X:List Int),(∀ c,c∈cs→c.f0.Nodup∧ ∀ i,i∈c.f0→0≤i∧i<X.length)→(putA X cs).getD j 0=X.getD j 0+tot cs j
 |[],X,_=>by show X.getD j 0=X.getD j 0+0;omega
 |c::cs,X,h=>by
  obtain⟨h1,h2⟩:=h c List.mem_cons_self;show (putA (lessA X (-c.f1) c.f0) cs).getD j 0=_;rw[putA_get j cs _ (fun c' hc=>by rw[lessA_len];exact h c' (List.mem_cons_of_mem _ hc)),lessA_get _ _ _ _ h1 h2,tot_cons];split<;>omega
def In (B:Int) (X:List Int):Prop:= ∀ j:Nat,0≤X.getD j 0∧X.getD j 0≤B
theorem In.set {B:Int} {X:List Int} (h:In B X) {i:Nat} (hi:i<X.length) {N:Int} (h0:0≤N) (h1:N≤1048576):In (B+1048576) (X.set i (X.getD i 0 - -N)):=by
 intro j;have h2:=h j;have h3:=h i;rw[getD_set _ _ _ _ _ hi];split<;>omega
theorem clean_l1 (ch cy:List S47) (m:Nat) (hm:m<ch.length) (hch:ch.length≤1000000) (ax:List Int) (N:Int) (hax:ch.getD m z47=⟨ax,N⟩) (h0:0≤N) (h1:N≤1048576) (hl:ax.length≤1000000) (R:List Int × Int) (d:Nat): ∀ (i:Nat) (X:List Int) (B:Int),i+d=ax.length→(∀ j,j∈ax.drop i→0≤j∧j<X.length)→In B X→B+d * 1048576≤4611686018427387904→
  (In (B+d * 1048576) (lessA X (-N) (ax.drop i))→Ev (fun k=>ebbtideref13_Clean.l0 k (lessA X (-N) (ax.drop i)) ((m+1:Nat):Int) ch cy) R)→Ev (fun k=>ebbtideref13_Clean.l1 k X (m:Int) (i:Int) ch cy) R:=by
 have hg:rd_T47 ch (m:Int)=⟨ax,N⟩:=by unfold rd_T47;rw[Int.toNat_natCast];exact hax
 induction d with
 |zero=>
  intro i X B hi _ hX _ hR;have e:ax.drop i=[]:=List.drop_of_length_le (by omega);rw[e] at hR;have h:=hR (by intro j;have:=hX j;show 0≤X.getD j 0∧X.getD j 0≤_;omega);refine Ev.succ ?_;simp only[ebbtideref13_Clean.l1];refine Ev.pos (by omega) ?_;refine Ev.pos (by omega) ?_;rw[hg];refine Ev.neg (by show ¬ (i:Int)<(ax.length:Int);omega) ?_;rw[wrap_succ (n:=ch.length) (by omega) (by omega)];exact h
 |succ d ih=>
  intro i X B hi hb hX hB hR;have hd:=drop_getD ax i 0 (by omega);rw[hd] at hb hR;obtain⟨b0,b1⟩:=hb _ List.mem_cons_self;have hv:=hX (ax.getD i 0).toNat
  refine Ev.succ ?_;simp only[ebbtideref13_Clean.l1];refine Ev.pos (by omega) ?_;refine Ev.pos (by omega) ?_;rw[hg];refine Ev.pos (by show (i:Int)<(ax.length:Int);omega) ?_;refine Ev.pos (by omega) ?_;rw[rd_nat];refine Ev.pos b0 ?_;refine Ev.pos b1 ?_;have hr:rd X (ax.getD i 0)=X.getD (ax.getD i 0).toNat 0:=rfl;rw[hr,wrap_succ (n:=ax.length) (by omega) (by omega)];show Ev (fun k=>ebbtideref13_Clean.l1 k (X.set (ax.getD i 0).toNat (wrap64 (X.getD (ax.getD i 0).toNat 0+N))) (m:Int) ((i+1:Nat):Int) ch cy) R;have hw:wrap64 (X.getD (ax.getD i 0).toNat 0+N)=X.getD (ax.getD i 0).toNat 0 - -N:=by rw[wrap_id (by omega) (by omega)];omega
  rw[hw];refine ih (i+1) _ (B+1048576) (by omega) (fun j hj=> ?_) (hX.set (by omega) h0 h1) (by omega) fun hin=>hR ?_
  ·rw[List.length_set];exact hb j (List.mem_cons_of_mem _ hj)
  ·have e:B+((d+1:Nat):Int) * 1048576=B+1048576+d * 1048576:=by omega
   rw[e];exact hin
theorem clean_l0 (ch cy:List S47) (hch:ch.length≤200) (n:Nat) (hok: ∀ c,c∈ch→0≤c.f1∧c.f1≤1048576∧c.f0.length≤200∧ ∀ i,i∈c.f0→0≤i∧i<(n:Int)) (d:Nat): ∀ (m:Nat) (X:List Int),m+d=ch.length→X.length=n→In (m * 209715200) X→
  Ev (fun k=>ebbtideref13_Clean.l0 k X (m:Int) ch cy) (putA X (ch.drop m),0):=by
 induction d with
 |zero=>
  intro m X hm _ _;refine Ev.succ ?_;simp only[ebbtideref13_Clean.l0];refine Ev.neg (by omega) ?_;exact Ev.done (by rw[List.drop_of_length_le (by omega)];rfl)
 |succ d ih=>
  intro m X hm hX hin;have hml:m<ch.length:=by omega
  obtain⟨c,hc⟩: ∃ c,ch.getD m z47=c:=⟨_,rfl⟩;have hd:=drop_getD ch m z47 hml;obtain⟨c0,c1,c2,c3⟩:=hok c (hc▸getD_mem hml);rw[hd,hc];refine Ev.succ ?_;simp only[ebbtideref13_Clean.l0];refine Ev.pos (by omega) ?_;have h1:=clean_l1 ch cy m hml (by omega) c.f0 c.f1 hc c0 c1 (by omega) (putA (lessA X (-c.f1) c.f0) (ch.drop (m+1)),0) c.f0.length 0 X (m * 209715200) (by omega) (by rw[List.drop_zero,hX];exact c3) hin (by omega) (fun hin2=>by
   rw[List.drop_zero] at hin2 ⊢;refine ih (m+1) _ (by omega) (by rw[lessA_len];exact hX) fun j=> ?_
   have:=hin2 j;omega)
  exact h1
theorem ref_clean_ev (n:Int) (b:Bool) (l:List S50) (s t:Int) (f:List Int):Ev (fun k=>ebbtideref13_Clean.f k n b l s t f) (cleanR n l s t f):=by
 unfold ebbtideref13_Clean.f;refine Ev.bind (ref_split_ev n b l s t f) ?_;by_cases he:(splitR n l s t f).2.2=0
 ·refine Ev.pos he ?_
  obtain⟨n0,s0,t0,rfl,rfl,rfl,hs,ht,hst,hn,hfl,hv0,hval,hsp,hcl⟩:=split_ok he;have hok:=split_parts hs ht hst hfl hv0;have hlf:=hfl.right.len;have hA:=hfl.right.arcs;have hr1:=hok.cyc.right;have hr1:Right l (cycF l n0 1000 0 f).2 n0:=hr1;have hl1:=hr1.len;rw[hcl,hsp];refine Ev.pos (by omega) ?_;rw[Int.toNat_natCast];refine Ev.pos (by omega) ?_;have hfew:(chF l n0 s0 t0 1000 (cycF l n0 1000 0 f).2).1.length+posN _≤posN (cycF l n0 1000 0 f).2:=hok.chn.few;have hpn:=posN_le200 hr1;have hg: ∀ c,c∈(chF l n0 s0 t0 1000 (cycF l n0 1000 0 f).2).1→(0≤c.f1∧c.f1≤1048576∧c.f0.length≤200∧ ∀ i,i∈c.f0→0≤i∧i<(f.length:Int))∧c.f0.Nodup:=fun c hc=>by
   obtain⟨g1,g2,G,g3⟩:=hok.chn.each c hc;have hlen:c.f0.length≤200:=link_len hA g3;exact⟨⟨by omega,g2,hlen,fun i hi=>by have:=g3.go.of i hi;omega⟩,g3.nodup⟩
  have h1:=clean_l0 _ (cycF l n0 1000 0 f).1 (by omega) f.length (fun c hc=>(hg c hc).1) _ 0 (List.replicate f.length 0) (Nat.zero_add _) (List.length_replicate ..) (fun j=>by
   rw[List.getD_eq_getElem?_getD,List.getElem?_replicate];split<;>simp)
  refine Ev.eq h1 ?_;rw[List.drop_zero];refine Prod.ext ?_ rfl;show putA _ _=(cycF l n0 1000 0 f).2;refine ext_rd (by rw[putA_len,List.length_replicate,hl1,hlf]) fun j _=> ?_
  rw[rd_nat,rd_nat,putA_get j _ _ (fun c hc=>⟨(hg c hc).2,fun i hi=>by rw[List.length_replicate];exact(hg c hc).1.2.2.2 i hi⟩)];have h2:(cycF l n0 1000 0 f).2.getD j 0=(chF l n0 s0 t0 1000 (cycF l n0 1000 0 f).2).2.getD j 0+tot (chF l n0 s0 t0 1000 (cycF l n0 1000 0 f).2).1 j:=hok.chn.get j;rw[h2,hok.zero];congr 1;rw[List.getD_eq_getElem?_getD,List.getElem?_replicate];split<;>rfl
 ·refine Ev.neg he ?_
  unfold cleanR;rw[Yy he];exact Ev.now _
def Short (cs:List S47):Prop:=cs.length≤1000000∧ ∀ c,c∈cs→c.f0.length≤1000000
theorem same13_l1 (cs:List S47) (h:Short cs) (m:Nat) (hm:m<cs.length) (R:Bool) (hR:Ev (fun k=>ebbtideref13_Same.l0 k cs cs ((m+1:Nat):Int)) R) (d:Nat): ∀ i:Nat,i+d=(cs.getD m z47).f0.length→Ev (fun k=>ebbtideref13_Same.l1 k cs cs (m:Int) (i:Int)) R:=by
 have hg:rd_T47 cs (m:Int)=cs.getD m z47:=by unfold rd_T47;rw[Int.toNat_natCast]
 have hl:=h.2 _ (getD_mem (d:=z47) hm);have hc:=h.1
 induction d with
 |zero=>
  intro i hi;refine Ev.succ ?_;simp only[ebbtideref13_Same.l1];refine Ev.pos (by omega) ?_;refine Ev.pos (by omega) ?_;rw[hg];refine Ev.neg (by omega) ?_;rw[wrap_succ (n:=cs.length) (by omega) (by omega)];exact hR
 |succ d ih=>
  intro i hi;have h1:=ih (i+1) (by omega);refine Ev.succ ?_;simp only[ebbtideref13_Same.l1];refine Ev.pos (by omega) ?_;refine Ev.pos (by omega) ?_;rw[hg];refine Ev.pos (by omega) ?_;refine Ev.pos (by omega) ?_;refine Ev.pos (by omega) ?_;refine Ev.pos (by omega) ?_;refine Ev.pos trivial ?_;rw[wrap_succ (n:=(cs.getD m z47).f0.length) (by omega) (by omega)];exact h1
theorem same13_l0 (cs:List S47) (h:Short cs) (d:Nat): ∀ m:Nat,m+d=cs.length→Ev (fun k=>ebbtideref13_Same.l0 k cs cs (m:Int)) true:=by
 have hc:=h.1
 induction d with
 |zero=>
  intro m hm;refine Ev.succ ?_;simp only[ebbtideref13_Same.l0];refine Ev.neg (by omega) ?_;exact Ev.now _
 |succ d ih=>
  intro m hm;have h1:=ih (m+1) (by omega);refine Ev.succ ?_;simp only[ebbtideref13_Same.l0];refine Ev.pos (by omega) ?_;refine Ev.pos (by omega) ?_;refine Ev.pos (by omega) ?_;refine Ev.pos trivial ?_;refine Ev.succ ?_;simp only[ebbtideref13_Same.j1];refine Ev.neg (by simp) ?_;exact same13_l1 cs h m (by omega) true h1 _ 0 (Nat.zero_add _)
theorem same13_ev (cs:List S47) (h:Short cs):Ev (fun k=>ebbtideref13_Same.f k cs cs) true:=by
 unfold ebbtideref13_Same.f;refine Ev.pos rfl ?_;exact same13_l0 cs h _ 0 (Nat.zero_add _)
theorem split_short (n:Int) (l:List S50) (s t:Int) (f:List Int):Short (splitR n l s t f).1∧Short (splitR n l s t f).2.1:=by
 by_cases he:(splitR n l s t f).2.2=0
 ·obtain⟨n0,s0,t0,rfl,rfl,rfl,hs,ht,hst,hn,hfl,hv0,hval,hsp,hcl⟩:=split_ok he
  have hok:=split_parts hs ht hst hfl hv0;have hA:=hfl.right.arcs;have hr1:Right l (cycF l n0 1000 0 f).2 n0:=hok.cyc.right;have hpn:=posN_le200 hr1;have hpf:=posN_le200 hfl.right;have hfew:(chF l n0 s0 t0 1000 (cycF l n0 1000 0 f).2).1.length+posN _≤posN (cycF l n0 1000 0 f).2:=hok.chn.few;have hfew2:(cycF l n0 1000 0 f).1.length+posN _≤posN f:=hok.cyc.few;rw[hsp];refine⟨⟨by show (chF l n0 s0 t0 1000 (cycF l n0 1000 0 f).2).1.length≤_;omega,fun c hc=> ?_⟩,⟨by show (cycF l n0 1000 0 f).1.length≤_;omega,fun c hc=> ?_⟩⟩
  ·obtain⟨g1,g2,G,g3⟩:=hok.chn.each c hc
   have:=link_len hA g3;omega
  ·obtain⟨g1,g2,G,i,g3,g4,g5⟩:=hok.cyc.each c hc
   have:=link_len hA g4;omega
 ·obtain⟨h1,h2,_⟩:=split_no he
  rw[h1,h2];exact⟨⟨Nat.zero_le _,fun c hc=>by cases hc⟩,⟨Nat.zero_le _,fun c hc=>by cases hc⟩⟩
theorem clean_len (n:Int) (l:List S50) (s t:Int) (f:List Int):(cleanR n l s t f).1.length≤9223372036854775807:=by
 by_cases he:(splitR n l s t f).2.2=0
 ·obtain⟨n0,s0,t0,rfl,rfl,rfl,hs,ht,hst,hn,hfl,hv0,hval,hsp,hcl⟩:=split_ok he
  have hok:=split_parts hs ht hst hfl hv0;have hA:=hfl.right.arcs;have hr1:Right l (cycF l n0 1000 0 f).2 n0:=hok.cyc.right;have hl1:=hr1.len;rw[hcl];show (cycF l n0 1000 0 f).2.length≤_;omega
 ·unfold cleanR
  rw[Yy he];exact Nat.zero_le _
end Q
namespace P
attribute [local go_sem] max2_int min2_int max_two min_two max_three min_three max_four min_four
def slices_Clone_int_int.f (l0:List Int):Option (List Int):=(some (([]:List Int):List Int)).bind fun y658=>(if y658.length+l0.length<17592186044416 then(some (y658 ++ l0)) else(none))
set_option maxHeartbeats 8000000 in
set_option maxRecDepth 100000 in
theorem slices_Clone_int_int.calls (A0:Option Addr) (c0:Nat) (l0:List Int) (r:List Int) (w:World) (hr0:Kd.C (Kd.int .i64) w A0 l0.length l0) (hc0:l0.length≤c0) (h:slices_Clone_int_int.f l0=some r):
  Calls Try.prog 57 #[.slice A0 l0.length c0] w fun e w'=> ∃ v0_:Value,e= .returned (v0_)∧Kd.R (Kd.int .i64) 3 w' w.heap.size (fun _=>True) v0_ r∧Below w.heap.size w w':=by
 have HR0:=Ya hr0;have HC0:=Ya hc0;clear hr0 hc0;have HB:=Ya (Yo w.heap.size w);have H:=h;unfold slices_Clone_int_int.f at H;clear h;obtain⟨y658,hy658⟩: ∃ y_:List Int,y_=(([]:List Int)):=⟨_,rfl⟩;rw[Option.bind_some, ← hy658] at H;have Ny658:=Ya hy658;clear hy658;by_cases c2:y658.length+l0.length<17592186044416
 rotate_left
 ·rw[Yy c2] at H
  exact absurd H (by simp)
 rw[Yx c2] at H;have LMc2:=Ya c2;clear c2;obtain⟨y661,hy661⟩: ∃ y_:List Int,y_=(y658 ++ l0):=⟨_,rfl⟩;rw[← hy661] at H;have Ny661:=Ya hy661;clear hy661;obtain rfl:=Option.some.inj H;have hl0:=HC0.out;rcases A0 with _|ad0
 ·have hz:l0=[]:=by
   rcases Nat.eq_zero_or_pos l0.length with h0|h0
   ·exact List.eq_nil_of_length_eq_zero h0
   ·obtain⟨ad,he,_⟩:=HR0.out.2.2 h0
    cases he
  subst hz;have hrun: ∀ W:World,(Go.binOp .eql 31 (.slice none 0 c0) (.slice none 0 0)).run Try.prog W= .ok (.bool true) W:=fun W=>Go.run_eql_slice_nil W 31 3 none 0 c0 Try.underlying31
  have Hy:y661=[]:=by rw[Ny661.out,Ny658.out];rfl
  have NHy:=Ya Hy;clear Hy;have HR0':=HR0;clear HR0 HC0 hl0;go_enter Try.func57,Try.ntmps57;go_wp2;go_ret;exact⟨_,rfl,by rw[NHy.out];exact Kd.R_nil _ _ _ _ _,HB.out⟩
 have hrun: ∀ W:World,(Go.binOp .eql 31 (.slice (some ad0) l0.length c0) (.slice none 0 0)).run Try.prog W= .ok (.bool false) W:=fun W=>Go.run_eql_slice_nil W 31 3 (some ad0) l0.length c0 Try.underlying31
 clear hl0;go_enter Try.func57,Try.ntmps57;go_wp2_with (first|((with_reducible refine gate_dst (N:=5) rfl ?_);refine Kd.R_lit (Kd.int .i64) _ 3 ?hg (N:=5) ?hd (xs:=([]:List Int)) (inner:=[]) (ok:=fun _=>True) (okp:=fun _=>True) ?hr ?hp (fun _ hk=>hk) trivial (Yo _ _) (Nat.le_refl _) (by simp) ?_;(case hd=>rfl);(case hg=>rfl);(case hr=>first|(go_simp;done)|(go_simp;rfl));(case hp=>exact(Reps.none _ _));intro v659 w3 ho4 hb hg_ hnew_;clear hg_ hnew_;(first|rw[← Ny658.out] at ho4|(simp only[Int.reduceToNat] at ho4;rw[← Ny658.out] at ho4));have HO660:=Ya (Kd.R_lower ho4 (Yi bl));replace HB:=Ya (Yk bl hb);clear hb ho4)|((with_reducible refine gate_builtin (b:= .append) (xs:= #[.tmp 5, .tmp 6]) rfl ?_);at_builtin;refine Kd.R_append_rows (Kd.int .i64) (w0:=w) w.heap.size rfl (.tmp 5) (.tmp 6) 31 3 (.int .i64 0) 8 rfl Try.underlying31 info3 rfl (by decide) (by omega) v659 y658 l0 _ _ _ (fun _=>True) (fun _=>False) rfl rfl ?aO ?aR (fun _ _ h=>h) (fun _ h=>h.elim) ?aF ?aB ?aS ?aL ?_;(case aR=>repeat(first|exact(Yt HR0.out HB.out)|(with_reducible refine Kd.C_alloc ?_ _)|(with_reducible refine Kd.C_drewN ?_ _)|(with_reducible refine Kd.C_drew ?_)));(case aB=>exact bl);(case aF=>exact(fun _ _=>trivial));(case aO=>exact(kR HO660));(case aS=>exact(Yi bl));(case aL=>have:=LMc2.out;omega);intro v662 w5 ho hb hg hat;rw[← Ny661.out] at ho;replace HB:=Ya (hb);have HO663:=Ya (ho);clear HO660;clear ho hb hg hat));go_ret;exact⟨_,by first|rfl|(simp[errW_none,errW_some]<;>rfl)|(simp[*,errW_none,errW_some]<;>rfl),by(with_reducible repeat(first|apply Yr|apply Yq|apply Yp));exact HO663.out,bl⟩
end P
namespace H
open P
theorem cyc_fold {l:List S50} {n:Nat} (k:Nat): ∀ (i:Nat) (F:List Int),(cycF l n k i F).1.foldl (fun X c=>lessA X c.f1 c.f0) F=(cycF l n k i F).2:=by
 induction k with
 |zero=>intro i F;rfl
 |succ k ih=>
  intro i F;unfold cycF;split
  ·split
   ·exact ih _ _
   ·exact ih _ _
  ·rfl
theorem clone_ints {f:List Int} (h:f.length≤1000000):slices_Clone_int_int.f f=some f:=by
 show (if 0+f.length<17592186044416 then some ([] ++ f) else none)=some f;rw[Yx (by omega)];rfl
def cutTo (F:List Int) (cs:List S47) (m:Nat):List Int:=(cs.take m).foldl (fun X c=>lessA X c.f1 c.f0) F
theorem cutTo_len (F:List Int) (cs:List S47) (m:Nat):(cutTo F cs m).length=F.length:=by
 unfold cutTo
 induction cs.take m generalizing F with
 |nil=>rfl
 |cons c r ih=>rw[List.foldl_cons,ih,lessA_len]
theorem tot_nonneg: ∀ (cs:List S47) (j:Nat),(∀ c,c∈cs→1≤c.f1)→0≤tot cs j
 |[],j,_=>Int.le_refl _
 |c::cs,j,h=>by
  have h1:=h c List.mem_cons_self;have h2:=tot_nonneg cs j (fun c hc=>h c (List.mem_cons_of_mem _ hc));rw[tot_cons];split<;>omega
theorem tot_app (a b:List S47) (j:Nat):tot (a ++ b) j=tot a j+tot b j:=by
 induction a with
 |nil=>show tot b j=0+tot b j;omega
 |cons c a ih=>rw[List.cons_append,tot_cons,tot_cons,ih];omega
theorem fold_get (j:Nat): ∀ (cs:List S47) (F:List Int),(∀ c,c∈cs→c.f0.Nodup∧ ∀ i,i∈c.f0→0≤i∧i<F.length)→(cs.foldl (fun X c=>lessA X c.f1 c.f0) F).getD j 0=F.getD j 0 - tot cs j
 |[],F,_=>by show F.getD j 0=F.getD j 0 - 0;omega
 |c::cs,F,h=>by
  obtain⟨h1,h2⟩:=h c List.mem_cons_self;rw[List.foldl_cons,fold_get j cs _ (fun c' hc=>by rw[lessA_len];exact h c' (List.mem_cons_of_mem _ hc)),lessA_get _ _ _ _ h1 h2,tot_cons];omega
theorem cut_nums {l:List S50} {f F1:List Int} {n:Nat} {P:S47→Prop} {CY:List S47} (hr:Right l f n) (h:Parts l f n P (CY,F1)) (hc: ∀ c,c∈CY→c.f0.Nodup∧ ∀ i,i∈c.f0→0≤i∧i<f.length) (m j:Nat) (hj:j<l.length):
  0≤(cutTo f CY m).getD j 0∧(cutTo f CY m).getD j 0≤1048576:=by
 have h1:=fold_get j (CY.take m) f (fun c hc'=>hc c (List.mem_of_mem_take hc'));have h2:=h.get j;have h3:tot CY j=tot (CY.take m) j+tot (CY.drop m) j:=by rw[← tot_app,List.take_append_drop]
 have h4:=tot_nonneg (CY.drop m) j (fun c hc'=>(h.each c (List.mem_of_mem_drop hc')).1);have h5:=tot_nonneg (CY.take m) j (fun c hc'=>(h.each c (List.mem_of_mem_take hc')).1);have h6:=(h.right.nums j hj).2.2.1;have h7:=hr.nums j hj;unfold cutTo;rw[h1];have h2:f.getD j 0=F1.getD j 0+tot CY j:=h2;have h6:0≤F1.getD j 0:=h6;omega
set_option maxHeartbeats 8000000 in
set_option maxRecDepth 100000 in
theorem decomp_Clean_calls (Zc:Int) (Zb:Bool) (Ze:Option Addr) (Zd:Nat) (l:List S50) (a1:Int) (a2:Int) (A3:Option Addr) (c3:Nat) (f:List Int) (r1:List Int) (r2:Int) (w:World) (Zq:Kd.C k50 w Ze l.length l) (Zr:l.length≤Zd) (hr3:Kd.C (Kd.int .i64) w A3 f.length f) (hc3:f.length≤c3) (h:some (cleanR Zc l a1 a2 f)=some (r1,r2)):
  Calls Try.prog 24 #[.agg #[.int .i64 Zc, .bool Zb, .slice Ze l.length Zd], .int .i64 a1, .int .i64 a2, .slice A3 f.length c3] w fun e w'=> ∃ v0_:Value,e= .returned (.tuple #[v0_, .int .i64 r2])∧Kd.R (Kd.int .i64) 3 w' w.heap.size (fun _=>True) v0_ r1∧Below w.heap.size w w':=by
 have hu24:=Try.underlying24;have hu102:=Try.underlying47;injection h with h
 have H2:=Ya Zq;have H3:=Ya hr3;have HC2:=Ya Zr;have HC3:=Ya hc3;clear Zq hr3 Zr hc3;by_cases he:(splitR Zc l a1 a2 f).2.2=0
 ·obtain⟨n0,s0,t0,rfl,rfl,rfl,hs,ht,hst,hn,hfl,hv0,hval,hsp,hcl⟩:=split_ok he
  have hok:=split_parts hs ht hst hfl hv0;rw[hcl] at h;injection h with h1 h2
  subst h2;have hfo:=cyc_fold (l:=l) (n:=n0) 1000 0 f;have hlf:=hfl.right.len;have hAr:=hfl.right.arcs;obtain⟨CY,hCY⟩: ∃ C,C=(cycF l n0 1000 0 f).1:=⟨_,rfl⟩;obtain⟨CH,hCH⟩: ∃ C,C=(chF l n0 s0 t0 1000 (cycF l n0 1000 0 f).2).1:=⟨_,rfl⟩;rw[← hCY, ← hCH] at hsp;have hcyc:=hok.cyc;rw[← hCY] at hcyc hfo;rw[h1] at hcyc hfo;have hlen:CY.length≤200:=by have h_:=hcyc.few;have h2:=posN_len f;have h3:CY.length+posN r1≤posN f:=h_;omega
  have heach: ∀ c,c∈CY→(c.f0.Nodup∧ ∀ i,i∈c.f0→0≤i∧i<(f.length:Int))∧1≤c.f1∧c.f1≤1048576∧c.f0.length≤200:=by
   intro c hc;obtain⟨g1,g2,G,i,g3,g4,_⟩:=hcyc.each c hc;refine⟨⟨g4.nodup,fun i hi=>by have:=g4.go.of i hi;rw[hlf];exact this⟩,g1,g2,?_⟩;have h1:=pigeonN l.length (c.f0.map Int.toNat) (by
    refine List.pairwise_map.2 ?_;have h2:=g4.go.of;refine(List.Pairwise.and_mem.1 g4.nodup).imp fun {x y} hxy e=>hxy.2.2 ?_
    have:=h2 x hxy.1;have:=h2 y hxy.2.1;omega) (fun x hx=>by obtain⟨y,hy,rfl⟩:=List.mem_map.1 hx;have:=g4.go.of y hy;omega)
   rw[List.length_map] at h1;omega
  have HSP:Aside0 (some (splitR (n0:Int) l (s0:Int) (t0:Int) f)=some (CH,CY,0)):=⟨by rw[hsp]⟩;have hnum:=fun m j hj=>cut_nums hfl.right hcyc (fun c hc=>(heach c hc).1) m j hj
  have HFO:=Ya hfo;have HEA:=Ya heach;have HNM:=Ya hnum;have HLF:=Ya hlf;clear he hn hfl hv0 hval hsp hcl hok h1 hfo hCY hCH hcyc heach hnum hlf;go_enter Try.func24,Try.ntmps24;go_upto_region 4 with (first|((with_reducible refine gate_dst (N:=4) rfl ?_);refine Yz ?hg (N:=4) ?hd (cs:= #[.int .i64 (n0:Int), .bool Zb, .slice Ze l.length Zd]) (t:=24) ?hr ?_;(case hd=>rfl);(case hg=>rfl);(case hr=>first|(go_simp;done)|(go_simp;rfl));intro g4 hg w5 Zf hb;have B4:=Ya Zf;have HB:=Ya hb;clear hg Zf hb;have x0:w5.cell? ⟨g4,0,none⟩=some (.int .i64 (n0:Int)):=(Yc B4.out 0).trans rfl;have x1:w5.cell? ⟨g4,1,none⟩=some (.bool Zb):=(Yc B4.out 1).trans rfl;have x2:w5.cell? ⟨g4,2,none⟩=some (.slice Ze l.length Zd):=(Yc B4.out 2).trans rfl)|(go_at_call 19;refine(decomp_Split_calls (n0:Int) Zb Ze Zd l (s0:Int) (t0:Int) A3 c3 f CH CY 0 _ (Yt H2.out HB.out) HC2.out (Yt H3.out HB.out) HC3.out HSP.out).mono ?_;rintro e_ w6 ⟨v0,v1,rfl,hs0,hs1,hb⟩;obtain⟨Ac,cc,ev⟩:=Kd.S_slice hs1;subst ev;have HCY:=Ya (Kd.S_reads' hs1).2.2;have m0_:=Ya (Yk HB.out hb);clear HB B4 hb x0 x1 x2 hs0 hs1;have HB:=m0_;clear m0_)|fail)
  have HKC:=Ya (slices_Clone_int_int.calls A3 c3 f f w6 (Yt H3.out HB.out) HC3.out (clone_ints (by have:=HLF.out;omega)));go_upto_region 5 with (first|(go_at_call 57;refine HKC.out.mono ?_;rintro e_ w7 ⟨vo,rfl,ho,hb⟩;obtain⟨Ao,co,ev⟩:=Kd.R_slice ho;subst ev;have HO:=Ya ho;have HB7:=Ya hb;clear ho hb)|fail)
  go_wp2_with fail;go_loopw [34] (fun v34 w'=> ∃ m:Nat,v34= .int .i64 (m:Int)∧m≤CY.length∧Aside0 (Kd.R (Kd.int .i64) 3 w' w6.heap.size (fun _=>True) (.slice Ao f.length co) (cutTo f CY m))∧Aside0 (Below w6.heap.size w6 w')) (fun v34 _=>CY.length - (intOf v34).toNat)
  case atStart=>exact⟨0,rfl,Nat.zero_le _,HO,HB7⟩
  case round=>
   clear HO HB7;obtain⟨m,rfl,hm,HO,HBM⟩:=hrel;by_cases hlt:m<CY.length
   ·have c35:decide ((m:Int)<(CY.length:Int))=true:=Yv (by omega)
    have pm:(0:Int)≤(m:Int):=by omega
    have qm:(m:Int)<(CY.length:Int):=by omega
    obtain⟨ad,A0,c0,e,s0,s1,hl0,hC0⟩:=at_T47 HCY.out (m:Int) pm qm;subst e;simp only[Int.toNat_natCast] at s0 s1;replace s0:=pw_cell_below HBM.out s0;replace s1:=pw_cell_below HBM.out s1;obtain⟨c,hcc⟩: ∃ c,c=rd_T47 CY (m:Int):=⟨_,rfl⟩;rw[← hcc] at s0 s1 hl0 hC0;have hcg:CY.getD m z47=c:=by rw[hcc];unfold rd_T47;rw[Int.toNat_natCast]
    have hcm:c∈CY:=by rw[← hcg];exact Q.getD_mem hlt
    obtain⟨⟨g1,g2⟩,g3,g4,g5⟩:=HEA.out c hcm;obtain⟨ax,hax⟩: ∃ ax,ax=c.f0:=⟨_,rfl⟩;obtain⟨N,hN⟩: ∃ N,N=c.f1:=⟨_,rfl⟩;rw[← hax] at s0 hl0 hC0 g1 g2 g5;rw[← hN] at s1 g3 g4;have hnx:cutTo f CY (m+1)=lessA (cutTo f CY m) N ax:=by
     unfold cutTo;rw[List.take_add_one,List.getElem?_eq_getElem hlt,List.foldl_append];have e:CY[m]=c:=by rw[← hcg,List.getD_eq_getElem?_getD,List.getElem?_eq_getElem hlt];rfl
     rw[e,hax,hN];rfl
    have HNX:=Ya hnx;have HG1:=Ya g1;have HG2:=Ya g2;have HC0:=Ya hC0;clear hcc hcg hcm g1 g2 hax hN hnx hC0;go_upto_region 8 with (first|((with_reducible refine gate_dst (N:=15) rfl ?_);refine Yz ?hg (N:=15) ?hd (cs:= #[.slice none 0 0, .int .i64 0]) (t:=47) ?hr ?_;(case hd=>rfl);(case hg=>rfl);(case hr=>first|(go_simp;done)|(go_simp;rfl));intro g8 hg w10 Zf hb;have GE8:Aside0 (wr.heap.size≤g8):=⟨Nat.le_of_eq hg.symm⟩;have B8:=Ya Zf;have HB8:=Ya hb;clear Zf hg hb;have y0:w10.cell? ⟨g8,0,none⟩=some (.slice none 0 0):=(Yc B8.out 0).trans rfl;have y1:w10.cell? ⟨g8,1,none⟩=some (.int .i64 0):=(Yc B8.out 1).trans rfl;have q0:=Yf B8.out 0;have q1:=Yf B8.out 1)|((with_reducible refine gate_store (t:=47) (p:=15) rfl ?_);refine store_event (t:=47) (p:=15) (v:= ?vo) (w1:=((w10.setCell ⟨g8,0,none⟩ (.slice A0 ax.length c0)).setCell ⟨g8,1,none⟩ (.int .i64 N))) ?hg ?ho ?hn ?hr ?_;(case ho=>rfl);(case hg=>rfl);(case hn=>rfl);(case hr=>first|(go_simp;done)|(go_simp;rfl));intro w11 hw;have m0_:Aside0 (w11.heap[g8]? =some (.cells #[.slice A0 ax.length c0, .int .i64 N] 47 (0,0))):=⟨by rw[hw];refine YA (cs:= #[.slice A0 ax.length c0, .int .i64 0]) ?_ 1 _ rfl;refine YA (cs:= #[.slice none 0 0, .int .i64 0]) ?_ 0 _ rfl;exact B8.out⟩;have m1_:Aside0 (Below wr.heap.size wr w11):=⟨by rw[hw];exact Yh (Yh HB8.out GE8.out) GE8.out⟩;clear hw B8 HB8 y0 y1 q0 q1 s0 s1;have B8:=m0_;have HB8:=m1_;clear m0_ m1_;have y0:w11.cell? ⟨g8,0,none⟩=some (.slice A0 ax.length c0):=(Yc B8.out 0).trans rfl)|fail)
    have HBC:=Ya (Yk HBM.out HB8.out);have HOC:=Ya (Ys HO.out HB8.out);clear HO HBM;obtain⟨w12,hw12⟩: ∃ x_:World,x_=wr:=⟨_,rfl⟩;subst hw12;go_wp2_with fail;go_loopw [41] (fun v41 w'=> ∃ j:Nat,v41= .int .i64 (j:Int)∧j≤ax.length∧Aside0 (Kd.R (Kd.int .i64) 3 w' w6.heap.size (fun _=>True) (.slice Ao f.length co) (lessA (cutTo f CY m) N (ax.take j)))∧Aside0 (w'.heap[g8]? =some (.cells #[.slice A0 ax.length c0, .int .i64 N] 47 (0,0)))∧Aside0 (Below w6.heap.size w6 w')) (fun v41 _=>ax.length - (intOf v41).toNat)
    case atStart=>exact⟨0,rfl,Nat.zero_le _,⟨by rw[List.take_zero];exact HOC.out⟩,B8,HBC⟩
    case round=>
     clear HOC B8 HBC;obtain⟨j,rfl,hj,HO,B8,HBJ⟩:=hrel;by_cases hlj:j<ax.length
     ·have c42:decide ((j:Int)<(ax.length:Int))=true:=Yv (by omega)
      have pj:(0:Int)≤(j:Int):=by omega
      have qj:(j:Int)<(ax.length:Int):=by omega
      have hm2:ax.getD j 0∈ax:=Q.getD_mem hlj;have hin:=HG2.out _ hm2;obtain⟨ij,hij⟩: ∃ ij:Nat,ax.getD j 0=(ij:Int):=⟨(ax.getD j 0).toNat,by omega⟩;have htk:ax.take (j+1)=ax.take j ++ [(ij:Int)]:=by rw[List.take_add_one,List.getElem?_eq_getElem hlj, ← hij,List.getD_eq_getElem?_getD,List.getElem?_eq_getElem hlj];rfl
      have hnot:(ij:Int) ∉ ax.take j:=by
       have h5:(ax.take (j+1)).Nodup:=List.Sublist.nodup (List.take_sublist _ _) HG1.out;rw[htk,List.nodup_append] at h5;exact fun hm=>h5.2.2 _ hm _ (List.mem_singleton.2 rfl) rfl
      rw[hij] at hin;obtain⟨ad2,e,yk⟩:=Kd.at_int (Yt HC0.out HBJ.out) (j:Int) pj qj;subst e;rw[Q.rd_nat,hij,Int.toNat_natCast] at yk;have hXl:(lessA (cutTo f CY m) N (ax.take j)).length=f.length:=by rw[lessA_len,cutTo_len]
      obtain⟨go,cap,e,hbg,hltg,_⟩:=Kd.R_form HO.out (by rw[hXl];omega);injection e with e1 e2 e3
      subst e1;have hcv:(lessA (cutTo f CY m) N (ax.take j)).getD ij 0=(cutTo f CY m).getD ij 0:=by
       rw[lessA_get N ij (ax.take j) _ (List.Sublist.nodup (List.take_sublist _ _) HG1.out) (fun i hi=>by have:=HG2.out i (List.mem_of_mem_take hi);rw[cutTo_len];exact this),Yy hnot,Int.sub_zero]
      have hnum:=HNM.out m ij (by have:=HLF.out;omega);obtain⟨cv,hcv2⟩: ∃ c,c=(cutTo f CY m).getD ij 0:=⟨_,rfl⟩;have hcell:=Kd.R_celln 0 HO.out (ij:Int) (by omega) (by omega);have z0:wr.cell? ⟨go,ij,none⟩=some (.int .i64 cv):=by rw[hcv2, ← hcv];exact hcell.1
      have zf:wr.frozen? ⟨go,ij,none⟩=false:=hcell.2;have hput:=(Kd.R_putg HO.out (ij:Int) (cv - N)).1;have hsn:=lessA_snoc (cutTo f CY m) N (ax.take j) (ij:Int);rw[Int.toNat_natCast,hcv, ← hcv2] at hsn;rw[Int.toNat_natCast, ← hsn, ← htk] at hput;have HPUT:=Ya hput;have hne:g8≠go:=fun e=>Kd.R_ne HO.out B8.out (by decide) (by rw[e];rfl)
      have HNE:=Ya hne;have hBG:w6.heap.size≤go:=hbg;have HBG:=Ya hBG;rw[← hcv2] at hnum;have pc:0≤cv:=hnum.1;have qc:cv≤1048576:=hnum.2;have pij:(0:Int)≤(ij:Int):=by omega
      have qij:(ij:Int)<(f.length:Int):=by omega
      have b1:wr.cell? ⟨g8,1,none⟩=some (.int .i64 N):=(Yc B8.out 1).trans rfl;clear hm2 hin hij htk hnot hXl hcv hnum hcv2 hcell hput hsn hne hbg hltg hBG e2 e3;go_upto_region 11 with fail
      try simp only[Act.put,List.setIfInBounds_toArray,List.set_cons_zero,List.set_cons_succ]
      go_region;have m0_:Aside0 (Kd.R (Kd.int .i64) 3 (wr.setCell ⟨go,ij,none⟩ (.int .i64 (cv - N))).drew w6.heap.size (fun _=>True) (.slice (some ⟨go,0,none⟩) f.length co) (lessA (cutTo f CY m) N (ax.take (j+1)))):=⟨Ys HPUT.out (below_drew (Yo _ _))⟩;have m1_:Aside0 ((wr.setCell ⟨go,ij,none⟩ (.int .i64 (cv - N))).drew.heap[g8]? =some (.cells #[.slice (some ad2) ax.length c0, .int .i64 N] 47 (0,0))):=⟨Yn (blk_far B8.out (p:=⟨go,ij,none⟩) HNE.out _) (below_drew (Yo _ _))⟩;have m2_:Aside0 (Below w6.heap.size w6 (wr.setCell ⟨go,ij,none⟩ (.int .i64 (cv - N))).drew):=⟨below_drew (Yh HBJ.out HBG.out)⟩;go_wp2_with fail;go_roundw
      case rel=>exact⟨j+1,by go_num,hlj,m0_,m1_,m2_⟩
      case measure=>simp[intOf]<;>omega
     ·have ej:j=ax.length:=by omega
      subst ej;have c42:decide ((ax.length:Int)<(ax.length:Int))=false:=Yw (by omega);go_wp2_with fail;go_roundw
      case rel=>exact⟨m+1,by go_num,hlt,⟨by rw[HNX.out];have h_:=HO.out;rw[List.take_of_length_le (Nat.le_refl _)] at h_;exact h_⟩,HBJ⟩
      case measure=>simp[intOf]<;>omega
   ·have em:m=CY.length:=by omega
    subst em;have c35:decide ((CY.length:Int)<(CY.length:Int))=false:=Yw (by omega);go_wp2_with fail;go_ret2;have h_:=HO.out;unfold cutTo at h_;rw[List.take_of_length_le (Nat.le_refl _),HFO.out] at h_;exact⟨_,rfl,Kd.R_lower h_ HB.out.size,Yk HB.out HBM.out⟩
 ·have hl:cleanR Zc l a1 a2 f=([],(splitR Zc l a1 a2 f).2.2):=by unfold cleanR;rw[Yy he]
  obtain⟨q1,q2,_⟩:=split_no he;rw[hl] at h;injection h with h1 h2
  subst h1;have e1:(r2 != 0)=true:=by rw[bne_iff_ne, ← h2];exact he
  have HSP:Aside0 (some (splitR Zc l a1 a2 f)=some ([],[],r2)):=⟨by
   obtain⟨⟨x,y,z⟩,hx⟩: ∃ p,p=splitR Zc l a1 a2 f:=⟨_,rfl⟩;rw[← hx] at q1 q2 h2 ⊢;have q1:x=[]:=q1;have q2:y=[]:=q2;have h2:z=r2:=h2;rw[q1,q2,h2]⟩
  clear hl q1 q2 h2 he;go_enter Try.func24,Try.ntmps24;go_wp2_with (first|((with_reducible refine gate_dst (N:=4) rfl ?_);refine Yz ?hg (N:=4) ?hd (cs:= #[.int .i64 Zc, .bool Zb, .slice Ze l.length Zd]) (t:=24) ?hr ?_;(case hd=>rfl);(case hg=>rfl);(case hr=>first|(go_simp;done)|(go_simp;rfl));intro g4 hg w5 Zf hb;have B4:=Ya Zf;have HB:=Ya hb;clear hg Zf hb;have x0:w5.cell? ⟨g4,0,none⟩=some (.int .i64 Zc):=(Yc B4.out 0).trans rfl;have x1:w5.cell? ⟨g4,1,none⟩=some (.bool Zb):=(Yc B4.out 1).trans rfl;have x2:w5.cell? ⟨g4,2,none⟩=some (.slice Ze l.length Zd):=(Yc B4.out 2).trans rfl)|(go_at_call 19;refine(decomp_Split_calls Zc Zb Ze Zd l a1 a2 A3 c3 f [] [] r2 _ (Yt H2.out HB.out) HC2.out (Yt H3.out HB.out) HC3.out HSP.out).mono ?_;rintro e_ w6 ⟨v0,v1,rfl,hs0,hs1,hb⟩;obtain⟨Ac,cc,ev⟩:=Kd.S_slice hs1;subst ev;have HCY:=Ya (Kd.S_reads' hs1).2.2;have m0_:=Ya (Yk HB.out hb);clear HB B4 hb x0 x1 x2 hs0 hs1;have HB:=m0_;clear m0_)|fail);go_ret2;exact⟨_,rfl,Kd.R_nil _ _ _ _ _,HB.out⟩
end H
namespace Q
open P
theorem awake13_at:ebbtidelaw13_awake.f 100=some true:=by decide +kernel
theorem awake13_ev:Ev (fun k=>ebbtidelaw13_awake.f k) true:=Ev.of ebbtidelaw13_awake.mono awake13_at
end Q
namespace H
open P
open Q (ref_split_ev ref_clean_ev awake13_ev same13_ev same_ev split_short clean_len)
set_option maxHeartbeats 8000000 in
set_option maxRecDepth 100000 in
theorem ebbtidelaw13_DecompSplits_calls (Zc:Int) (Zb:Bool) (Ze:Option Addr) (Zd:Nat) (Za:List S50) (a1:Int) (a2:Int) (A3:Option Addr) (c3:Nat) (l3:List Int) (r:Bool) (w:World) (Zq:Kd.C k50 w Ze Za.length Za) (Zr:Za.length≤Zd) (hr3:Kd.C (Kd.int .i64) w A3 l3.length l3) (hc3:l3.length≤c3) (h:some true=some r):
  Calls Try.prog 6 #[.agg #[.int .i64 Zc, .bool Zb, .slice Ze Za.length Zd], .int .i64 a1, .int .i64 a2, .slice A3 l3.length c3] w fun e w'=>e= .returned (.bool r)∧Below w.heap.size w w':=by
 have hu24:=Try.underlying24;have hu54:=Try.underlying54;injection h with h
 subst h;obtain⟨n1,hn1⟩: ∃ n_,n_=fewN Zc 12:=⟨_,rfl⟩;obtain⟨l1,hl1⟩: ∃ l_,l_=fewL Za 40:=⟨_,rfl⟩;obtain⟨hsx,hsy⟩:=split_short n1 l1 a1 a2 l3;have hcl:=clean_len n1 l1 a1 a2 l3;obtain⟨⟨X,Y,e⟩,hve⟩: ∃ p,p=splitR n1 l1 a1 a2 l3:=⟨_,rfl⟩;obtain⟨⟨Z,z⟩,hze⟩: ∃ p,p=cleanR n1 l1 a1 a2 l3:=⟨_,rfl⟩;obtain⟨K1,hK1⟩:=ref_split_ev n1 Zb l1 a1 a2 l3;have hm1:=hK1 K1 (Nat.le_refl _);obtain⟨K2,hK2⟩:=ref_clean_ev n1 Zb l1 a1 a2 l3;have hm2:=hK2 K2 (Nat.le_refl _);obtain⟨K3,hK3⟩:=awake13_ev;have hm3:=hK3 K3 (Nat.le_refl _);rw[← hve] at hm1 hsx hsy;rw[← hze] at hm2 hcl;obtain⟨K4,hK4⟩:=same13_ev X hsx;have hm4:=hK4 K4 (Nat.le_refl _);obtain⟨K5,hK5⟩:=same13_ev Y hsy;have hm5:=hK5 K5 (Nat.le_refl _);have hsz:=same_ev Z Z hcl;rw[Yv rfl] at hsz;obtain⟨K6,hK6⟩:=hsz;have hm6:=hK6 K6 (Nat.le_refl _);have HM1:=Ya hm1;have HM2:=Ya hm2;have HM3:=Ya hm3;have HM4:=Ya hm4;have HM5:=Ya hm5;have HM6:=Ya hm6;have HP1:=Ya (congrArg some hve.symm);have HP2:=Ya (congrArg some hze.symm);have HN1:=Ya hn1;have HL1:=Ya hl1;have H2:=Ya Zq;have HC2:=Ya Zr;have H3:=Ya hr3;have HC3:=Ya hc3;have HLC:Aside0 (Kd.C k50 w Ze l1.length l1):=⟨by rw[hl1];exact fewL_C Zq 40⟩;have HLE:Aside0 (l1.length≤Zd):=⟨by rw[hl1];exact Nat.le_trans (fewL_le Za 40) Zr⟩;clear hve hze hK1 hK2 hK3 hK4 hK5 hK6 hm1 hm2 hm3 hm4 hm5 hm6 hn1 hl1 Zq Zr hr3 hc3 hsx hsy hcl;go_enter Try.func6,Try.ntmps6;go_upto_region 2 with (first|((with_reducible refine gate_dst (N:=4) rfl ?_);refine Yz ?hg (N:=4) ?hd (cs:= #[.int .i64 Zc, .bool Zb, .slice Ze Za.length Zd]) (t:=24) ?hr ?_;(case hd=>rfl);(case hg=>rfl);(case hr=>first|(go_simp;done)|(go_simp;rfl));intro g3 hg3 w5 Zf hb;have B3:=Ya Zf;have HB:=Ya hb;have HG3:Aside0 (w.heap.size≤g3):=⟨Nat.le_of_eq hg3.symm⟩;clear hg3 Zf hb;have x0:w5.cell? ⟨g3,0,none⟩=some (.int .i64 Zc):=(Yc B3.out 0).trans rfl;have x1:w5.cell? ⟨g3,1,none⟩=some (.bool Zb):=(Yc B3.out 1).trans rfl;have x2:w5.cell? ⟨g3,2,none⟩=some (.slice Ze Za.length Zd):=(Yc B3.out 2).trans rfl)|(go_at_call 9;refine(few_calls Zc Zb Ze Zd Za 12 40 _ (by decide) HC2.out (Yt H2.out HB.out)).mono ?_;rintro e_ w6 ⟨rfl,hb⟩;have m0_:=Ya (Yk HB.out hb);have m1_:=Ya (Yn B3.out hb);clear HB B3 hb x0 x1 x2;have HB:=m0_;have B3:=m1_;clear m0_ m1_;have x0:w6.cell? ⟨g3,0,none⟩=some (.int .i64 Zc):=(Yc B3.out 0).trans rfl;have x1:w6.cell? ⟨g3,1,none⟩=some (.bool Zb):=(Yc B3.out 1).trans rfl;have x2:w6.cell? ⟨g3,2,none⟩=some (.slice Ze Za.length Zd):=(Yc B3.out 2).trans rfl;have f0:=Yf B3.out 0;have f1:=Yf B3.out 1;have f2:=Yf B3.out 2)|fail)
 have B3':Aside0 ((((w6.setCell ⟨g3,0,none⟩ (.int .i64 (fewN Zc 12))).setCell ⟨g3,1,none⟩ (.bool Zb)).setCell ⟨g3,2,none⟩ (.slice Ze (fewL Za 40).length Zd)).heap[g3]? =some (.cells #[.int .i64 n1, .bool Zb, .slice Ze l1.length Zd] 24 (0,0))):=⟨by rw[HN1.out,HL1.out];exact YA (YA (YA B3.out 0 _ rfl) 1 _ rfl) 2 _ rfl⟩;have HB':Aside0 (Below w.heap.size w (((w6.setCell ⟨g3,0,none⟩ (.int .i64 (fewN Zc 12))).setCell ⟨g3,1,none⟩ (.bool Zb)).setCell ⟨g3,2,none⟩ (.slice Ze (fewL Za 40).length Zd))):=⟨Yh (Yh (Yh HB.out HG3.out) HG3.out) HG3.out⟩;clear B3 HB x0 x1 x2 f0 f1 f2;generalize ((w6.setCell ⟨g3,0,none⟩ (.int .i64 (fewN Zc 12))).setCell ⟨g3,1,none⟩ (.bool Zb)).setCell ⟨g3,2,none⟩ (.slice Ze (fewL Za 40).length Zd)=w7 at *;have B3:=B3';have HB:=HB';clear B3' HB';have x0:w7.cell? ⟨g3,0,none⟩=some (.int .i64 n1):=(Yc B3.out 0).trans rfl;have x1:w7.cell? ⟨g3,1,none⟩=some (.bool Zb):=(Yc B3.out 1).trans rfl;have x2:w7.cell? ⟨g3,2,none⟩=some (.slice Ze l1.length Zd):=(Yc B3.out 2).trans rfl;go_upto_region 4 with (first|(go_at_call 19;refine(decomp_Split_calls n1 Zb Ze Zd l1 a1 a2 A3 c3 l3 X Y e _ (Yt HLC.out HB.out) HLE.out (Yt H3.out HB.out) HC3.out HP1.out).mono ?_;rintro e_ w8 ⟨v0,v1,rfl,hs0,hs1,hb⟩;obtain⟨Ah,ch,ev⟩:=Kd.S_slice hs0;subst ev;obtain⟨Ac,cc,ev⟩:=Kd.S_slice hs1;subst ev;have HX1:=Ya (Kd.S_reads' hs0).2.2;have HE1:=Ya (Kd.S_reads' hs0).2.1;have HX2:=Ya (Kd.S_reads' hs1).2.2;have HE2:=Ya (Kd.S_reads' hs1).2.1;clear hs0 hs1;have m0_:=Ya (Yk HB.out hb);have m1_:=Ya (Yn B3.out hb);clear HB B3 hb x0 x1 x2;have HB:=m0_;have B3:=m1_;clear m0_ m1_;have x0:w8.cell? ⟨g3,0,none⟩=some (.int .i64 n1):=(Yc B3.out 0).trans rfl;have x1:w8.cell? ⟨g3,1,none⟩=some (.bool Zb):=(Yc B3.out 1).trans rfl;have x2:w8.cell? ⟨g3,2,none⟩=some (.slice Ze l1.length Zd):=(Yc B3.out 2).trans rfl)|(go_at_call 23;refine(ebbtideref13_Split.calls K1 n1 Zb Ze Zd l1 a1 a2 (fun k_=>k_<w.heap.size) A3 c3 l3 X Y e _ (Yt HLC.out HB.out) HLE.out (Kd.V_mk HC3.out (Kd.F_below (Kd.C_F (Kd.heap_int .i64) H3.out) HB.out)) HM1.out).mono ?_;rintro e_ w9 ⟨v0,v1,rfl,hs0,hs1,hb⟩;obtain⟨Ax,cx,ev⟩:=Kd.S_slice hs0;subst ev;obtain⟨Ay,cy,ev⟩:=Kd.S_slice hs1;subst ev;have HY1:=Ya (Kd.S_reads' hs0).2.2;have HF1:=Ya (Kd.S_reads' hs0).2.1;have HY2:=Ya (Kd.S_reads' hs1).2.2;have HF2:=Ya (Kd.S_reads' hs1).2.1;clear hs0 hs1;have HX1':=Ya (Yt HX1.out hb);have HX2':=Ya (Yt HX2.out hb);clear HX1 HX2;have HX1:=HX1';have HX2:=HX2';clear HX1' HX2';have m0_:=Ya (Yk HB.out hb);have m1_:=Ya (Yn B3.out hb);clear HB B3 hb x0 x1 x2;have HB:=m0_;have B3:=m1_;clear m0_ m1_;have x0:w9.cell? ⟨g3,0,none⟩=some (.int .i64 n1):=(Yc B3.out 0).trans rfl;have x1:w9.cell? ⟨g3,1,none⟩=some (.bool Zb):=(Yc B3.out 1).trans rfl;have x2:w9.cell? ⟨g3,2,none⟩=some (.slice Ze l1.length Zd):=(Yc B3.out 2).trans rfl)|fail)
 have hb:Below w9.heap.size w9 (w9.alloc (.cells #[.slice Ax X.length cx, .slice Ay Y.length cy] 54)):=Ye (Yo _ _) _;have B19:Aside0 ((w9.alloc (.cells #[.slice Ax X.length cx, .slice Ay Y.length cy] 54)).heap[w9.heap.size]? =some (.cells #[.slice Ax X.length cx, .slice Ay Y.length cy] 54 (0,0))):=⟨heap_alloc_new w9 _⟩;have HX1':=Ya (Yt HX1.out hb);have HX2':=Ya (Yt HX2.out hb);clear HX1 HX2;have HX1:=HX1';have HX2:=HX2';clear HX1' HX2';have HY1':=Ya (Yt HY1.out hb);have HY2':=Ya (Yt HY2.out hb);clear HY1 HY2;have HY1:=HY1';have HY2:=HY2';clear HY1' HY2';have m0_:=Ya (Yk HB.out hb);have m1_:=Ya (Yn B3.out hb);clear HB B3 hb x0 x1 x2;have HB:=m0_;have B3:=m1_;clear m0_ m1_;generalize w9.alloc (.cells #[.slice Ax X.length cx, .slice Ay Y.length cy] 54)=w10 at *;generalize w9.heap.size=g19 at *;have x0:w10.cell? ⟨g3,0,none⟩=some (.int .i64 n1):=(Yc B3.out 0).trans rfl;have x1:w10.cell? ⟨g3,1,none⟩=some (.bool Zb):=(Yc B3.out 1).trans rfl;have x2:w10.cell? ⟨g3,2,none⟩=some (.slice Ze l1.length Zd):=(Yc B3.out 2).trans rfl;go_upto_region 6 with (first|(go_at_call 24;refine(decomp_Clean_calls n1 Zb Ze Zd l1 a1 a2 A3 c3 l3 Z z _ (Yt HLC.out HB.out) HLE.out (Yt H3.out HB.out) HC3.out HP2.out).mono ?_;rintro e_ w11 ⟨v0,rfl,hs0,hb⟩;obtain⟨Az,cz,ev⟩:=Kd.R_slice hs0;subst ev;have HZ:=Ya (Kd.R_reads' hs0).2.2;have HG1:=Ya (Kd.R_reads' hs0).2.1;clear hs0;have HX1':=Ya (Yt HX1.out hb);have HX2':=Ya (Yt HX2.out hb);clear HX1 HX2;have HX1:=HX1';have HX2:=HX2';clear HX1' HX2';have HY1':=Ya (Yt HY1.out hb);have HY2':=Ya (Yt HY2.out hb);have B19':=Ya (Yn B19.out hb);clear HY1 HY2 B19;have HY1:=HY1';have HY2:=HY2';have B19:=B19';clear HY1' HY2' B19';have m0_:=Ya (Yk HB.out hb);have m1_:=Ya (Yn B3.out hb);clear HB B3 hb x0 x1 x2;have HB:=m0_;have B3:=m1_;clear m0_ m1_;have x0:w11.cell? ⟨g3,0,none⟩=some (.int .i64 n1):=(Yc B3.out 0).trans rfl;have x1:w11.cell? ⟨g3,1,none⟩=some (.bool Zb):=(Yc B3.out 1).trans rfl;have x2:w11.cell? ⟨g3,2,none⟩=some (.slice Ze l1.length Zd):=(Yc B3.out 2).trans rfl)|(go_at_call 25;refine(ebbtideref13_Clean.calls K2 n1 Zb Ze Zd l1 a1 a2 A3 c3 l3 Z z _ (Yt HLC.out HB.out) HLE.out (Yt H3.out HB.out) HC3.out HM2.out).mono ?_;rintro e_ w12 ⟨v0,rfl,hs0,hb⟩;obtain⟨Av,cv,ev⟩:=Kd.R_slice hs0;subst ev;have HV:=Ya (Kd.R_reads' hs0).2.2;have HG2:=Ya (Kd.R_reads' hs0).2.1;clear hs0;have HX1':=Ya (Yt HX1.out hb);have HX2':=Ya (Yt HX2.out hb);clear HX1 HX2;have HX1:=HX1';have HX2:=HX2';clear HX1' HX2';have HY1':=Ya (Yt HY1.out hb);have HY2':=Ya (Yt HY2.out hb);have B19':=Ya (Yn B19.out hb);clear HY1 HY2 B19;have HY1:=HY1';have HY2:=HY2';have B19:=B19';clear HY1' HY2' B19';have HZ':=Ya (Yt HZ.out hb);clear HZ;have HZ:=HZ';clear HZ';have m0_:=Ya (Yk HB.out hb);have m1_:=Ya (Yn B3.out hb);clear HB B3 hb x0 x1 x2;have HB:=m0_;have B3:=m1_;clear m0_ m1_;have x0:w12.cell? ⟨g3,0,none⟩=some (.int .i64 n1):=(Yc B3.out 0).trans rfl;have x1:w12.cell? ⟨g3,1,none⟩=some (.bool Zb):=(Yc B3.out 1).trans rfl;have x2:w12.cell? ⟨g3,2,none⟩=some (.slice Ze l1.length Zd):=(Yc B3.out 2).trans rfl)|fail)
 have y0:w12.cell? ⟨g19,0,none⟩=some (.slice Ax X.length cx):=(Yc B19.out 0).trans rfl;have y1:w12.cell? ⟨g19,1,none⟩=some (.slice Ay Y.length cy):=(Yc B19.out 1).trans rfl;have d1:(e == e)=true:=beq_self_eq_true e;have d2:(z == z)=true:=beq_self_eq_true z;go_wp2_with (first|(go_at_call 18;refine(ebbtidelaw13_awake.calls K3 true _ HM3.out).mono ?_;rintro e_ w13 ⟨rfl,hb⟩;have HX1':=Ya (Yt HX1.out hb);have HX2':=Ya (Yt HX2.out hb);clear HX1 HX2;have HX1:=HX1';have HX2:=HX2';clear HX1' HX2';have HY1':=Ya (Yt HY1.out hb);have HY2':=Ya (Yt HY2.out hb);have B19':=Ya (Yn B19.out hb);clear HY1 HY2 B19;have HY1:=HY1';have HY2:=HY2';have B19:=B19';clear HY1' HY2' B19';have HZ':=Ya (Yt HZ.out hb);clear HZ;have HZ:=HZ';clear HZ';have HV':=Ya (Yt HV.out hb);clear HV;have HV:=HV';clear HV';have m0_:=Ya (Yk HB.out hb);have m1_:=Ya (Yn B3.out hb);clear HB B3 hb x0 x1 x2;have HB:=m0_;have B3:=m1_;clear m0_ m1_;have x0:w13.cell? ⟨g3,0,none⟩=some (.int .i64 n1):=(Yc B3.out 0).trans rfl;have x1:w13.cell? ⟨g3,1,none⟩=some (.bool Zb):=(Yc B3.out 1).trans rfl;have x2:w13.cell? ⟨g3,2,none⟩=some (.slice Ze l1.length Zd):=(Yc B3.out 2).trans rfl;clear y0 y1;have y0:w13.cell? ⟨g19,0,none⟩=some (.slice Ax X.length cx):=(Yc B19.out 0).trans rfl;have y1:w13.cell? ⟨g19,1,none⟩=some (.slice Ay Y.length cy):=(Yc B19.out 1).trans rfl)|fail);refine(ebbtideref13_Same.calls K4 Ah ch X Ax cx X true _ HX1.out HE1.out HY1.out HF1.out HM4.out).mono ?_;rintro e_ w14 ⟨rfl,hd⟩;have hb:=hd.below;clear hd;have HX1':=Ya (Yt HX1.out hb);have HX2':=Ya (Yt HX2.out hb);clear HX1 HX2;have HX1:=HX1';have HX2:=HX2';clear HX1' HX2';have HY1':=Ya (Yt HY1.out hb);have HY2':=Ya (Yt HY2.out hb);have B19':=Ya (Yn B19.out hb);clear HY1 HY2 B19;have HY1:=HY1';have HY2:=HY2';have B19:=B19';clear HY1' HY2' B19';have HZ':=Ya (Yt HZ.out hb);clear HZ;have HZ:=HZ';clear HZ';have HV':=Ya (Yt HV.out hb);clear HV;have HV:=HV';clear HV';have m0_:=Ya (Yk HB.out hb);have m1_:=Ya (Yn B3.out hb);clear HB B3 hb x0 x1 x2;have HB:=m0_;have B3:=m1_;clear m0_ m1_;have x0:w14.cell? ⟨g3,0,none⟩=some (.int .i64 n1):=(Yc B3.out 0).trans rfl;have x1:w14.cell? ⟨g3,1,none⟩=some (.bool Zb):=(Yc B3.out 1).trans rfl;have x2:w14.cell? ⟨g3,2,none⟩=some (.slice Ze l1.length Zd):=(Yc B3.out 2).trans rfl;clear y0 y1;have y0:w14.cell? ⟨g19,0,none⟩=some (.slice Ax X.length cx):=(Yc B19.out 0).trans rfl;have y1:w14.cell? ⟨g19,1,none⟩=some (.slice Ay Y.length cy):=(Yc B19.out 1).trans rfl;go_wp2_with fail;refine(ebbtideref13_Same.calls K5 Ac cc Y Ay cy Y true _ HX2.out HE2.out HY2.out HF2.out HM5.out).mono ?_;rintro e_ w15 ⟨rfl,hd⟩;have hb:=hd.below;clear hd;have HZ':=Ya (Yt HZ.out hb);clear HZ;have HZ:=HZ';clear HZ';have HV':=Ya (Yt HV.out hb);clear HV;have HV:=HV';clear HV';have m0_:=Ya (Yk HB.out hb);have m1_:=Ya (Yn B3.out hb);clear HB B3 hb x0 x1 x2;have HB:=m0_;have B3:=m1_;clear m0_ m1_;have x0:w15.cell? ⟨g3,0,none⟩=some (.int .i64 n1):=(Yc B3.out 0).trans rfl;have x1:w15.cell? ⟨g3,1,none⟩=some (.bool Zb):=(Yc B3.out 1).trans rfl;have x2:w15.cell? ⟨g3,2,none⟩=some (.slice Ze l1.length Zd):=(Yc B3.out 2).trans rfl;go_wp2_with fail;refine(ebbtideref03_SameInts.calls K6 Az cz Z Av cv Z true _ HZ.out HG1.out HV.out HG2.out HM6.out).mono ?_;rintro e_ w16 ⟨rfl,hd⟩;have hb:=hd.below;clear hd;have m0_:=Ya (Yk HB.out hb);have m1_:=Ya (Yn B3.out hb);clear HB B3 hb x0 x1 x2;have HB:=m0_;have B3:=m1_;clear m0_ m1_;have x0:w16.cell? ⟨g3,0,none⟩=some (.int .i64 n1):=(Yc B3.out 0).trans rfl;have x1:w16.cell? ⟨g3,1,none⟩=some (.bool Zb):=(Yc B3.out 1).trans rfl;have x2:w16.cell? ⟨g3,2,none⟩=some (.slice Ze l1.length Zd):=(Yc B3.out 2).trans rfl;go_wp2_with fail;go_ret;exact⟨rfl,HB.out⟩
end H
namespace P
attribute [local go_sem] max2_int min2_int max_two min_two max_three min_three max_four min_four
def ebbtidelaw13_DecompSplits.f (Zc:Int) (Zb:Bool) (Za:List (S50)) (a1:Int) (a2:Int) (l3:List Int):Option (Bool):=some true
theorem ebbtidelaw13_DecompSplits.calls (Zc:Int) (Zb:Bool) (Ze:Option Addr) (Zd:Nat) (Za:List (S50)) (a1:Int) (a2:Int) (A3:Option Addr) (c3:Nat) (l3:List Int) (r:Bool) (w:World) (Zq:Kd.C k50 w Ze Za.length Za) (Zr:Za.length≤Zd) (hr3:Kd.C (Kd.int .i64) w A3 l3.length l3) (hc3:l3.length≤c3) (h:ebbtidelaw13_DecompSplits.f Zc Zb Za a1 a2 l3=some r):
  Calls Try.prog 6 #[.agg #[.int .i64 Zc, .bool Zb, .slice Ze Za.length Zd], .int .i64 a1, .int .i64 a2, .slice A3 l3.length c3] w fun e w'=>e= .returned (.bool r)∧Below w.heap.size w w':=H.ebbtidelaw13_DecompSplits_calls Zc Zb Ze Zd Za a1 a2 A3 c3 l3 r w Zq Zr hr3 hc3 h
end P
namespace Opn
open Go.ChangeShapes Go.WideShapes Go.Deep 
def Opens (P:Program) (t:TypeId) {α:Type} (d:Kd α) (ok:α→Prop):Prop:=
 ∀ (H:Type) (enc:TypeId × Value→H) (w:World) (base:Nat) (spare:Nat→Bool) (held:Bool) (fuel:Nat) (cs:List Value) (x:DataW H × List MemPlace),
  DataW.trod enc P w base spare held fuel t cs=some x→ ∃ a:α,d.K w a cs∧ok a
theorem opens_int {P:Program} {t:TypeId} {k:IntKind} (ht:P.underlying t=some (.int k)):Opens P t (Kd.int k) (fun n=>(Lit.int k n).wf=true):=by
 intro H enc w base spare held fuel cs x h;obtain⟨n,rfl,_,hw⟩:=DataW.trod_int ht h;exact⟨n,rfl,hw⟩
theorem opens_bool {P:Program} {t:TypeId} (ht:P.underlying t=some .bool):Opens P t Kd.bool (fun _=>True):=by
 intro H enc w base spare held fuel cs x h;obtain⟨b,rfl,_⟩:=DataW.trod_bool ht h;exact⟨b,rfl,trivial⟩
theorem opens_slice {P:Program} {t e:TypeId} {α:Type} {d:Kd α} {ok:α→Prop} (ht:P.underlying t=some (.slice e)) (hc:P.cellsOf e=d.sz) (h:Opens P e d ok):
  Opens P t (Kd.slice e d) (fun l=>l.length≤9223372036854775807∧ ∀ x∈l,ok x):=by
 intro H enc w base spare held fuel cs x hx;rcases open_slice ht hx with ⟨rfl,_⟩|⟨a,len,cap,m,n,D,Pl,rfl,hb,hl,hm,hmm,_,hi⟩
 ·exact⟨[],⟨none,0,rfl,Nat.le_refl _,rfl,by simp,fun h=>absurd h (by simp)⟩,by simp,by simp⟩
 ·have hlm:len≤m:=by rw[hmm];split<;>omega
  have hel: ∀ i:Nat,i<len→ ∃ a':α,ok a'∧ ∃ c,c.length=d.sz∧d.K w a' c∧ ∀ j u,c[j]? =some u→w.cell? (a.add (i * d.sz+j))=some u:=by
   intro i hil;obtain⟨cs',hcs,htr⟩:=hi i (by omega);obtain⟨a',hK,hok⟩:=h H enc w base spare held n cs' _ htr;rw[hc] at hcs;obtain⟨_,hcl,hat⟩:=World.cells?_some hcs;refine⟨a',hok,cs',hcl,hK,fun j u hu=> ?_⟩;have hj:j<d.sz:=by have:=(List.getElem?_eq_some_iff.1 hu).1;omega
   have:=hat j hj;rw[← Go.Deep.add_add,this,hu]
  have hrow: ∀ k:Nat,k≤len→ ∃ xs:List α,xs.length=k∧(∀ x∈xs,ok x)∧ ∀ j p,xs[j]? =some p→ ∃ c,c.length=d.sz∧d.K w p c∧ ∀ i u,c[i]? =some u→w.cell? (a.add (j * d.sz+i))=some u:=by
   intro k
   induction k with
   |zero=>exact fun _=>⟨[],rfl,by simp,by simp⟩
   |succ k ih=>
    intro hk;obtain⟨xs,h1,h2,h3⟩:=ih (by omega);obtain⟨a',ho,c,hcl,hK,hcell⟩:=hel k (by omega);refine⟨xs ++ [a'],by simp[h1],fun x hx=> ?_,fun j p hj=> ?_⟩
    ·rcases List.mem_append.1 hx with h|h
     ·exact h2 x h
     ·rw[List.mem_singleton.1 h];exact ho
    ·by_cases hjk:j<xs.length
     ·rw[List.getElem?_append_left hjk] at hj
      exact h3 j p hj
     ·have hjl:=(List.getElem?_eq_some_iff.1 hj).1
      simp at hjl;have hje:j=k:=by omega
      subst hje;rw[← h1,List.getElem?_concat_length] at hj;obtain rfl:=Option.some.inj hj;exact⟨c,hcl,hK,hcell⟩
  obtain⟨xs,h1,h2,h3⟩:=hrow len (Nat.le_refl _);have hmx:len≤9223372036854775807:=by unfold maxLen at hm;omega
  subst h1;exact⟨xs,⟨some a,cap,rfl,hl,rfl,hmx,fun _=>⟨a,rfl,h3⟩⟩,hmx,h2⟩
theorem opens_iso {P:Program} {t:TypeId} {α β:Type} {d:Kd α} {ok:α→Prop} (h:Opens P t d ok) (f:β→α) (g:α→β) (hfg: ∀ x,f (g x)=x):Opens P t (Kd.iso d f) (fun y=>ok (f y)):=by
 intro H enc w base spare held fuel cs x hx;obtain⟨a,hK,hok⟩:=h H enc w base spare held fuel cs x hx;exact⟨g a,by show d.K w (f (g a)) cs;rw[hfg];exact hK,by show ok (f (g a));rw[hfg];exact hok⟩
def OpensFs (P:Program) (fs:List Field) (off:Nat) {α:Type} (d:Kd α) (ok:α→Prop):Prop:=
 ∀ (H:Type) (enc:TypeId × Value→H) (w:World) (base:Nat) (spare:Nat→Bool) (held:Bool) (n:Nat) (cs:List Value),cs.length=off+d.sz→
  (∀ f∈fs, ∃ y,DataW.trod enc P w base spare held n f.type ((cs.drop f.offset).take (P.cellsOf f.type))=some y)→ ∃ a:α,d.K w a (cs.drop off)∧ok a
theorem fs_one {P:Program} {f:Field} {off:Nat} {α:Type} {d:Kd α} {ok:α→Prop} (ho:f.offset=off) (hc:P.cellsOf f.type=d.sz) (h:Opens P f.type d ok):OpensFs P [f] off d ok:=by
 intro H enc w base spare held n cs hl hf;obtain⟨y,hy⟩:=hf f (by simp);rw[ho,hc,List.take_of_length_le (by simp;omega)] at hy;exact h H enc w base spare held n _ y hy
theorem fs_cons {P:Program} {f:Field} {fs:List Field} {off:Nat} {α β:Type} {d:Kd α} {d':Kd β} {ok:α→Prop} {ok':β→Prop} (ho:f.offset=off) (hc:P.cellsOf f.type=d.sz) (h:Opens P f.type d ok)
  (hr:OpensFs P fs (off+d.sz) d' ok'):OpensFs P (f::fs) off (Kd.pair d d') (fun x=>ok x.1∧ok' x.2):=by
 intro H enc w base spare held n cs hl hf;have hsz:(Kd.pair d d').sz=d.sz+d'.sz:=rfl;rw[hsz] at hl;obtain⟨y,hy⟩:=hf f (by simp);rw[ho,hc] at hy;obtain⟨a,hK,hok⟩:=h H enc w base spare held n _ y hy;obtain⟨b,hKb,hokb⟩:=hr H enc w base spare held n cs (by omega) (fun f' hf'=>hf f' (List.mem_cons_of_mem _ hf'));refine⟨(a,b),⟨_,_,?_,hK,hKb⟩,hok,hokb⟩;rw[← List.drop_drop];exact(List.take_append_drop _ _).symm
theorem opens_struct {P:Program} {t:TypeId} {fs:Array Field} {α:Type} {d:Kd α} {ok:α→Prop} (hs:P.underlying t=some (.struct fs)) (hC:P.cellsOf t=d.sz) (h:OpensFs P fs.toList 0 d ok):Opens P t d ok:=by
 intro H enc w base spare held fuel cs x hx;obtain⟨xs,n,_,_,hl,hlen,hf⟩:=DataW.trod_struct hs hx;obtain⟨a,hK,hok⟩:=h H enc w base spare held n cs (by rw[hl,hC,Nat.zero_add]) (fun f hfm=>by
  obtain⟨j,hj⟩:=List.getElem?_of_mem hfm;have hj':fs[j]? =some f:=by rw[← hj];simp
  have hjl:j<xs.length:=by rw[hlen];exact(Array.getElem?_eq_some_iff.1 hj').1
  have h1:=hf j f hj';rw[List.getElem?_eq_getElem hjl] at h1;exact⟨_,h1⟩)
 exact⟨a,hK,hok⟩
theorem arg_struct {H:Type} {enc:TypeId × Value→H} {P:Program} {w:World} {base b0:Nat} {spare:Nat→Bool} {held:Bool} {r:Reach} {t:TypeId} {fs:Array Field} {v:Value} {dd:DataW H} {p:List MemPlace} {α:Type} {d:Kd α} {ok:α→Prop}
  (hs:P.underlying t=some (.struct fs)) (ho:Opens P t d ok) (hv:Value.okWide P w r b0 t v) (h:DataW.Trod enc P w base spare held t v dd p): ∃ a cs,v= .agg cs∧d.K w a cs.toList∧ok a:=by
 obtain⟨cs,rfl,hsz⟩:=okWide_struct hs hv;obtain⟨fuel,hf⟩:=h;obtain⟨a,hK,hok⟩:=ho H enc w base spare held fuel _ _ hf;exact⟨a,cs,rfl,by simpa [Value.cells] using hK,hok⟩
theorem arg_slice {H:Type} {enc:TypeId × Value→H} {P:Program} {w:World} {base b0:Nat} {spare:Nat→Bool} {held:Bool} {r:Reach} {t e:TypeId} {v:Value} {dd:DataW H} {p:List MemPlace} {α:Type} {d:Kd α} {ok:List α→Prop}
  (hs:P.underlying t=some (.slice e)) (ho:Opens P t (Kd.slice e d) ok) (hv:Value.okWide P w r b0 t v) (h:DataW.Trod enc P w base spare held t v dd p): ∃ A c l,v= .slice A l.length c∧l.length≤c∧d.C w A l.length l∧ok l:=by
 obtain⟨A,len,cap,rfl⟩:=okWide_slice hs hv;obtain⟨fuel,hf⟩:=h;obtain⟨l,⟨A',c,he,hlc,hC⟩,hok⟩:=ho H enc w base spare held fuel _ _ hf;simp[Value.cells] at he;obtain⟨rfl,rfl,rfl⟩:=he;exact⟨A,cap,l,rfl,hlc,hC,hok⟩
end Opn
namespace Q
open P
theorem decompSplits_ev (n:Int) (b:Bool) (l:List S50) (s t:Int) (f:List Int):Ev (fun _=>ebbtidelaw13_DecompSplits.f n b l s t f) true:=Ev.now _
end Q
end Go.Proofs.Ytoedkglggapggaa
