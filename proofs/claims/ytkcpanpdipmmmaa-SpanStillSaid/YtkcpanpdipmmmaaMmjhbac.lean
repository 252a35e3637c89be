/- What the law's row needs of these texts, taken out of them by wip/tool/mini.py: QSeekWalk QReverseWalk QLevelDef QFarsWalk QFastWalk QFlowWalk QEndsLaw QRightOf QEndsRight QFillMem QDownWalk QPhaseMem QPhaseWalk QFillWalk QSpanFill P100 P101 P102 P103. -/
import Derived.Test.YtkcpanpdipmmmaaMbioojn
import Derived.Test.YtkcpanpdipmmmaaMnhpgej
import Derived.Test.YtkcpanpdipmmmaaMonmahc
import Derived.RegionTactic
import Derived.ChangeAlike
import Derived.BigRegion
import Derived.LoopTactic
import Derived.WalkKit
import Derived.WalkMore
import Derived.Deep.RegionHeld3
import Derived.Deep.DeepCutAuto
import Derived.Laws.IdiomCopy
import Derived.Lib.SliceRun
set_option linter.unusedVariables false
set_option linter.unusedSimpArgs false
open Go.RowKit Go.Proofs.YtkcpanpdipmmmaaW.PrintWords Go.Proofs.YtkcpanpdipmmmaaW.PrintLast Go.Proofs.YtkcpanpdipmmmaaW.PrintMore
namespace Go.Proofs.Ytkcpanpdipmmmaa
namespace H
open P
attribute [local irreducible] wpQuiet
def stz (n:Nat):List Value:=stC (List.replicate n z38)
theorem made_steps (n:Nat) (hn:n≤50): ∀ W:World,(Instr.makeSlice 34 (.int .i64 (n:Int)) (.int .i64 (n:Int))).run Try.prog W= .ok (.slice (some ⟨W.heap.size,0,none⟩) n n) (W.alloc (.cells (stz n).toArray 38)):=by
 intro W
 obtain⟨i0,hi,hzz⟩:=Option.map_eq_some_iff.1 info38
 simp only[Prod.mk.injEq] at hzz
 obtain⟨hz0,hz1,hz2⟩:=hzz
 have hr:=run_make (P:=Try.prog) W 34 38 i0 _ Try.underlying34 hi hz0 .i64 .i64 (n:Int) (n:Int) (by omega) (by omega) (by rw[hz2];omega) (by omega)
 rw[hz1] at hr
 simp only[Int.toNat_natCast] at hr
 have hl:(madeCells (Value.agg #[.int .i64 0, .bool false]).cells (n * 2))=(stz n).toArray:=by
  apply Array.ext'
  apply List.ext_getElem?
  intro i
  unfold stz
  by_cases h:i<n * 2
  ·have h2:=stC_get z38 (List.replicate n z38) (i / 2) (by simp;omega)
   have hg:(List.replicate n z38).getD (i / 2) z38=z38:=by
    rw[List.getD_eq_getElem?_getD,List.getElem?_replicate,Yx (by omega)];rfl
   rw[hg] at h2
   rcases Nat.mod_two_eq_zero_or_one i with hm|hm
   ·rw[show i / 2 * 2=i by omega] at h2
    show _=(stC _)[i]?
    rw[h2.1]
    simp[madeCells,Value.cells,h,hm,z38]
   ·rw[show i / 2 * 2+1=i by omega] at h2
    show _=(stC _)[i]?
    rw[h2.2]
    simp[madeCells,Value.cells,h,hm,z38]
  ·rw[List.getElem?_eq_none (by simp[size_madeCells];omega),List.getElem?_eq_none (by simp[stC_len];omega)]
 rw[← hl]
 exact hr
structure Sm (n0:Nat) (Zb:Bool) (A2:Option Addr) (c2:Nat) (l:List S74) (A3:Option Addr) (c3:Nat) (F:List Int) (A4:Option Addr) (c4:Nat) (g3 gd gb gq:Nat) (w:World) (st:List (Fd S38)) (i:Nat) (w':World):Prop where
 D:IsI w' gd (dOf n0 st)
 B:IsS w' gb (bOf z38 n0 st)
 b3:w'.heap[g3]? =some (.cells #[.int .i64 n0, .bool Zb, .slice A2 l.length c2, .slice A3 F.length c3, .slice A4 n0 c4] 118 (0,0))
 que: ∃ (A:Option Addr) (R:List Int) (fr:Nat),Qu w' gq A R fr (st.length - i) n0∧qL R fr (st.length - i)=qOf st i∧ ∀ k,quS gq A k→w.heap.size≤k∧k≠gd∧k≠gb∧k≠g3
 below:Below w.heap.size w w'
theorem Sm.step {n0:Nat} {Zb:Bool} {A2:Option Addr} {c2:Nat} {l:List S74} {A3:Option Addr} {c3:Nat} {F:List Int} {A4:Option Addr} {c4:Nat} {g3 gd gb gq:Nat} {w:World} {st:List (Fd S38)} {i:Nat} {w1 w2:World}
  (h:Sm n0 Zb A2 c2 l A3 c3 F A4 c4 g3 gd gb gq w st i w1) (hb:Below w1.heap.size w1 w2):Sm n0 Zb A2 c2 l A3 c3 F A4 c4 g3 gd gb gq w st i w2:=by
 obtain⟨A,R,fr,h1,h2,h3⟩:=h.que
 exact⟨h.D.below hb,h.B.below hb,Yn h.b3 hb,⟨A,R,fr,h1.below hb,h2,h3⟩,Yk h.below hb⟩
def seekW (w:World) (gd gb u:Nat) (a:Int) (e:S38):World:=(((w.setCell ⟨gd,u,none⟩ (.int .i64 a)).setCell ⟨gb,u * 2,none⟩ (.int .i64 e.f0)).setCell ⟨gb,u * 2+1,none⟩ (.bool e.f1)).drew
theorem seek_far (w:World) {gd gb g:Nat} (u:Nat) (a:Int) (e:S38) (h1:g≠gd) (h2:g≠gb):(seekW w gd gb u a e).heap[g]? =w.heap[g]? :=
 (Below.heap_setCell _ ⟨gb,u * 2+1,none⟩ _ g h2).trans ((Below.heap_setCell _ ⟨gb,u * 2,none⟩ _ g h2).trans (Below.heap_setCell _ ⟨gd,u,none⟩ _ g h1))
theorem seek_D {w:World} {gd gb:Nat} {D:List Int} (h:IsI w gd D) (hne:gd≠gb) (u:Nat) (a:Int) (e:S38):IsI (seekW w gd gb u a e) gd (D.set u a):=
 IsI.below ((((h.put u a).far (p:=⟨gb,u * 2,none⟩) hne _)).far (p:=⟨gb,u * 2+1,none⟩) hne _) (below_drew (Yo _ _))
theorem seek_B {w:World} {gd gb:Nat} {B:List S38} (h:IsS w gb B) (hne:gd≠gb) (u:Nat) (a:Int) (e:S38):IsS (seekW w gd gb u a e) gb (B.set u e):=
 IsS.below ((h.far (p:=⟨gd,u,none⟩) (Ne.symm hne) _).put u e) (below_drew (Yo _ _))
def SR (n0:Nat) (Zb:Bool) (A2:Option Addr) (c2:Nat) (l:List S74) (A3:Option Addr) (c3:Nat) (F:List Int) (A4:Option Addr) (c4:Nat) (g3 gd gb gq s:Nat) (t:Int) (w w':World) (m:Nat):Prop:=
 ∃ (st:List (Fd S38)) (i:Nat),m=n0 - i∧Lp l F n0 s t st i∧Sm n0 Zb A2 c2 l A3 c3 F A4 c4 g3 gd gb gq w st i w'
set_option maxHeartbeats 2000000 in
set_option maxRecDepth 100000 in
theorem seek_calls (n0:Nat) (Zb:Bool) (A2:Option Addr) (c2:Nat) (l:List S74) (A3:Option Addr) (c3:Nat) (F:List Int) (A4:Option Addr) (c4:Nat) (s:Nat) (t:Int) (w:World)
  (hR:Right l F n0) (hs:s<n0) (hts:t≠s) (hc2:l.length≤c2) (hc3:F.length≤c3) (h2:Kd.C k74 w A2 l.length l) (h3:Kd.C (Kd.int .i64) w A3 F.length F) (h4:(Kd.slice 38 k38).C w A4 n0 (rowsAt l n0 n0)):
  Calls Try.prog 145 #[.agg #[.int .i64 n0, .bool Zb, .slice A2 l.length c2, .slice A3 F.length c3, .slice A4 n0 c4], .int .i64 (s:Int), .int .i64 t] w fun e w'=> ∃ (gd gb:Nat) (st:List (Fd S38)),e= .returned (.tuple #[.slice (some ⟨gd,0,none⟩) n0 n0, .slice (some ⟨gb,0,none⟩) n0 n0])∧w.heap.size≤gd∧w.heap.size≤gb∧gd≠gb∧IsI w' gd (dOf n0 st)∧IsS w' gb (bOf z38 n0 st)∧Below w.heap.size w w'∧Seen l F n0 s t st:=by
 have hu24:=Try.underlying24
 have hu115:=Try.underlying115
 have hu118:=Try.underlying118
 have HR:=Ya hR
 have HC2:=Ya hc2
 have HC3:=Ya hc3
 have H2:=Ya h2
 have H3:=Ya h3
 have H4:=Ya h4
 have HTS:=Ya hts
 have hn50:n0≤50:=hR.fifty
 have hn0:0<n0:=hR.pos
 obtain⟨ad4,eA4⟩: ∃ ad,A4=some ad:=by
  obtain⟨ad,c,h_,_⟩:=Kd.C_get H4.out [] (0:Int) (by omega) (by omega)
  exact⟨ad,h_⟩
 subst eA4
 have hmk:=made_steps n0 hn50
 have HB:=Ya (Yo w.heap.size w)
 clear hR h2 h3 h4 hc2 hc3 hts
 go_enter Try.func145,Try.ntmps145
 go_upto_region 1 with (first|((with_reducible refine gate_dst (N:=3) rfl ?_);refine Yz ?hg (N:=3) ?hd (cs:= #[.int .i64 n0, .bool Zb, .slice A2 l.length c2, .slice A3 F.length c3, .slice (some ad4) n0 c4]) (t:=118) ?hr ?_;(case hd=>rfl);(case hg=>rfl);(case hr=>first|(go_simp;done)|(go_simp;rfl));intro g3 hg w5 Zf hb;have n0_:=Ya (Yk HB.out hb);have B3:=Ya Zf;clear HB;have HB:=n0_;have GE3:Aside0 (w.heap.size≤g3):=⟨Nat.le_of_eq hg.symm⟩;clear n0_ hb Zf hg)|fail)
 have hc0:w5.cell? ⟨g3,0,none⟩=some (.int .i64 n0):=(Yc B3.out 0).trans rfl
 go_step3
 go_upto_region 1 with fail
 go_cut [6,7] (fun v6 v7 wx=> ∃ gd gb:Nat,v6= .slice (some ⟨gd,0,none⟩) n0 n0∧v7= .slice (some ⟨gb,0,none⟩) n0 n0∧Aside0 (IsI wx gd (List.replicate n0 (-1)))∧Aside0 (IsS wx gb (List.replicate n0 z38))∧Aside0 (w5.heap.size≤gd∧w5.heap.size≤gb∧gd≠gb)∧Aside0 (Below w5.heap.size w5 wx))
 case first=>
  go_region_held3 (fun w'=>w'.cell? ⟨g3,0,none⟩=some (.int .i64 n0)) (first|(exact pw_cell_below (below_drew (Yo _ _)) (by assumption))|(exact pw_cell_below (Ye (Yo _ _) _) (by assumption))|(exact pw_cell_below hbr (by assumption))|go_keep)
   (first|(go_at_call 163;refine(repeat_core _ 1 n0 (-1) _ (by simp[go_sem]) hn0 hn50).mono ?_;rintro e_ w6 ⟨rfl,hrep,hbr⟩))
  ·go_wp2_with fail
   go_meet
   have hbb:=Yk (below_drew (Ye (Yo w5.heap.size w5) _)) hbr
   have hsz:=hbr.size
   have e1:(w5.alloc (.cells #[.int .i64 (-1)] 3)).drew.heap.size=w5.heap.size+1:=by simp
   rw[e1] at hrep hsz
   exact⟨w5.heap.size+1,w6.heap.size,rfl,rfl,⟨IsI.below hrep (Ye (Yo _ _) _)⟩,⟨heap_alloc_new w6 _⟩,⟨Nat.le_succ _,Nat.le_of_succ_le hsz,Nat.ne_of_lt (blk_lt hrep)⟩,⟨Ye hbb _⟩⟩
  ·go_wp2_with fail
   go_meet
   have hbb:=Yk (below_drew (Ye (Ye (Yo w5.heap.size w5) _) _)) hbr
   have hsz:=hbr.size
   have e1:((w5.alloc (.cells #[.int .i64 (-1)] 3)).alloc (.cells (stz n0).toArray 38)).drew.heap.size=w5.heap.size+2:=by simp
   rw[e1] at hrep hsz
   have hst:IsS w6 (w5.heap.size+1) (List.replicate n0 z38):=by
    refine IsS.below (w:=((w5.alloc (.cells #[.int .i64 (-1)] 3)).alloc (.cells (stz n0).toArray 38)).drew) ?_ hbr
    have h_:=heap_alloc_new (w5.alloc (.cells #[.int .i64 (-1)] 3)) (.cells (stz n0).toArray 38)
    have e2:(w5.alloc (.cells #[.int .i64 (-1)] 3)).heap.size=w5.heap.size+1:=by simp
    rw[e2] at h_
    exact h_
   exact⟨w5.heap.size+2,w5.heap.size+1,rfl,rfl,⟨hrep⟩,⟨hst⟩,⟨by omega,by omega,by omega⟩,⟨hbb⟩⟩
  ·go_wp2_with fail
   go_meet
   have hbb:=Yk (below_drew (Ye (Ye (Yo w5.heap.size w5) _) _)) hbr
   have hsz:=hbr.size
   have e1:((w5.alloc (.cells (stz n0).toArray 38)).alloc (.cells #[.int .i64 (-1)] 3)).drew.heap.size=w5.heap.size+2:=by simp
   rw[e1] at hrep hsz
   have hst:IsS w6 w5.heap.size (List.replicate n0 z38):=by
    refine IsS.below (w:=((w5.alloc (.cells (stz n0).toArray 38)).alloc (.cells #[.int .i64 (-1)] 3)).drew) ?_ hbr
    exact IsS.below (w:=w5.alloc (.cells (stz n0).toArray 38)) (heap_alloc_new w5 _) (below_drew (Ye (Yo _ _) _))
   exact⟨w5.heap.size+2,w5.heap.size,rfl,rfl,⟨hrep⟩,⟨hst⟩,⟨by omega,by omega,by omega⟩,⟨hbb⟩⟩
 case rest=>
  obtain⟨gd,gb,rfl,rfl,HD,HS,HG,HBC⟩:=hcut
  have m0_:=Ya (Yk HB.out HBC.out)
  have m1_:=Ya (Yn B3.out HBC.out)
  clear hmk hc0
  have GD:Aside0 (g3≠gd∧g3≠gb∧gd≠gb∧w.heap.size≤gd∧w.heap.size≤gb):=⟨by have h1:=blk_lt B3.out;have h2:=HG.out;have h3:=HB.out.size;omega⟩
  clear HB B3 HG HBC
  have HB:=m0_
  have B3:=m1_
  clear m0_ m1_
  have hd0:wc.cell? ⟨gd,s,none⟩=some (.int .i64 ((List.replicate n0 (-1:Int)).getD s 0)):=HD.out.cell (by simpa using hs)
  have hf0:=HD.out.free s
  have ps:(0:Int)≤(s:Int):=by omega
  have qs:(s:Int)<(n0:Int):=by omega
  have hc0:wc.cell? ⟨g3,0,none⟩=some (.int .i64 n0):=(Yc B3.out 0).trans rfl
  have hn3:g3≠gd:=GD.out.1
  go_wp2_with fail
  have m0_:Aside0 (IsI (wc.setCell ⟨gd,s,none⟩ (.int .i64 0)) gd (dOf n0 [⟨s,z38,0⟩])):=⟨by rw[dOf_one];exact HD.out.put s 0⟩
  have m1_:Aside0 (IsS (wc.setCell ⟨gd,s,none⟩ (.int .i64 0)) gb (bOf z38 n0 [⟨s,z38,0⟩])):=⟨by rw[bOf_one];exact HS.out.far (by have:=GD.out;show gb≠gd;omega) _⟩
  have m2_:Aside0 ((wc.setCell ⟨gd,s,none⟩ (.int .i64 0)).heap[g3]? =some (.cells #[.int .i64 n0, .bool Zb, .slice A2 l.length c2, .slice A3 F.length c3, .slice (some ad4) n0 c4] 118 (0,0))):=⟨blk_far B3.out (p:=⟨gd,s,none⟩) hn3 _⟩
  have m3_:=Ya (Yh (j:=s) (v:= .int .i64 0) HB.out GD.out.2.2.2.1)
  clear HD HS B3 HB hd0 hf0 hc0 hn3
  have HD:=m0_
  have HS:=m1_
  have B3:=m2_
  have HB:=m3_
  clear m0_ m1_ m2_ m3_
  generalize wc.setCell ⟨gd,s,none⟩ (.int .i64 0)=w8 at *
  go_wp2_with (first|(go_at_call 164;refine(que_new n0 _ hn50).mono ?_;rintro e_ w9 ⟨gq,rfl,hge,hq,hbq⟩;have m0_:=Ya (HD.out.below hbq);have m1_:=Ya (HS.out.below hbq);have m2_:=Ya (Yn B3.out hbq);have m3_:=Ya (Yk HB.out hbq);have GQ:Aside0 (w.heap.size≤gq∧gq≠gd∧gq≠gb∧gq≠g3):=⟨by have h1:=HD.out.lt;have h2:=HS.out.lt;have h3:=blk_lt B3.out;have h4:=HB.out.size;omega⟩;have HQ:=Ya hq;clear HD HS B3 HB hq hbq hge;have HD:=m0_;have HS:=m1_;have B3:=m2_;have HB:=m3_;clear m0_ m1_ m2_ m3_)|(go_at_call 165;refine(que_put_grow gq none [] 0 n0 (s:Int) _ HQ.out hn0).mono ?_;rintro e_ w10 ⟨rfl,bq,R1,hbq,hq,hql,hk⟩;have HM:Aside0 (Sm n0 Zb A2 c2 l A3 c3 F (some ad4) c4 g3 gd gb gq w [⟨s,z38,0⟩] 0 w10):=⟨⟨HD.out.kept hk (Ne.symm GQ.out.2.1),HS.out.kept hk (Ne.symm GQ.out.2.2.1),hk.blk B3.out (Ne.symm GQ.out.2.2.2),⟨_,R1,0,hq,hql,fun k hk2=>(by rcases hk2 with rfl|⟨a,ha,rfl⟩;exact GQ.out;cases ha;have h1:=HD.out.lt;have h2:=HS.out.lt;have h3:=blk_lt B3.out;have h4:=HB.out.size;show w.heap.size≤bq∧bq≠gd∧bq≠gb∧bq≠g3;omega)⟩,hk.toBelow HB.out HB.out.size (fun b hb=>by have:=GQ.out;omega)⟩⟩;clear HD HS B3 HB HQ hq hql hk hbq)|fail)
  go_step3
  go_wp2_with fail
  go_loopw [10] (fun v10 w'=> ∃ m,SR n0 Zb A2 c2 l A3 c3 F (some ad4) c4 g3 gd gb gq s t w w' m) (fun _ w'=>least (SR n0 Zb A2 c2 l A3 c3 F (some ad4) c4 g3 gd gb gq s t w w'))
  case atStart=>exact⟨_,_,_,rfl,lp_start hs HTS.out,HM.out⟩
  case round=>
   clear HM
   have hsp:=least_spec hrel
   obtain⟨M,hM⟩: ∃ M_,M_=least (SR n0 Zb A2 c2 l A3 c3 F (some ad4) c4 g3 gd gb gq s t w wr):=⟨_,rfl⟩
   rw[← hM] at hsp
   have HLE:=Ya hM
   clear hM hrel
   obtain⟨st,i,hmi,hlp,hsm⟩:=hsp
   have HMI:=Ya hmi
   have HLP:=Ya hlp
   have HSM:=Ya hsm
   clear hmi hlp hsm
   have hstn:=HLP.out.len HR.out hs
   have hile:=HLP.out.ile
   obtain⟨A,R,fr,hq,hql,hsep⟩:=HSM.out.que
   by_cases hlt:i<st.length
   ·obtain⟨x,hx⟩: ∃ x,st[i]? =some x:=⟨_,List.getElem?_eq_getElem hlt⟩
    obtain⟨k,hk⟩: ∃ k,st.length - i=k+1:=⟨st.length - i - 1,by omega⟩
    rw[hk] at hq hql
    have hk2:st.length - (i+1)=k:=by omega
    obtain⟨bq,eA⟩: ∃ b,A=some ⟨b,0,none⟩:=by
     rcases hq.ring with ⟨_,h1⟩|⟨b,h1,_⟩
     ·have:=hq.szr;rw[h1] at this;simp at this
     ·exact⟨b,h1⟩
    subst eA
    have hfr:fr<R.length:=by
     rcases hq.frr with h1|⟨_,h1⟩
     ·exact h1
     ·have:=hq.szr;rw[h1] at this;simp at this
    rw[qL_take R fr k hfr,qOf_cons hx] at hql
    injection hql with hv hql
    have hxn:x.v<n0:=fds_lt HLP.out.upto.fds (esP_to HR.out) hs _ (List.mem_map_of_mem (List.mem_of_getElem? hx))
    have HTK:=Ya (by have h_:=que_take gq bq R fr k n0 wr hq;rw[hv] at h_;exact h_)
    have HQL:=Ya hql
    have HSEP:=Ya hsep
    have HX:=Ya hx
    have HQ:=Ya hq
    have HK2:=Ya hk2
    obtain⟨ad,cv0,had,_,hKv,hcell⟩:=Kd.C_get H4.out [] (x.v:Int) (by omega) (by omega)
    cases had
    have hrow:(rowsAt l n0 n0).getD (x.v:Int).toNat []=stL l x.v l.length:=by rw[Int.toNat_natCast,List.getD_eq_getElem?_getD,rowsAt_get l n0 n0 _ hxn,Yx hxn];rfl
    rw[hrow] at hKv
    obtain⟨Av,cv,rfl,hlv,hCv⟩:=hKv
    have hrw:=hcell 0 _ rfl
    have e0:(x.v:Int).toNat * (Kd.slice 38 k38).sz+0=x.v:=by rw[Int.toNat_natCast];show x.v * 1+0=x.v;omega
    rw[e0] at hrw
    have HCV:=Ya hCv
    have HRC:=Ya hrw
    have px:(0:Int)≤(x.v:Int):=by omega
    have qx:(x.v:Int)<(n0:Int):=by omega
    obtain⟨v,hvx⟩: ∃ v_,v_=x.v:=⟨_,rfl⟩
    have hlen4:(stL l x.v l.length).length≤400:=by have:=stL_len l x.v l.length;have:=HR.out.arcs;omega
    clear hq hql hsep hx hv hk hk2 hcell hrow hlv hCv hrw e0
    have e1:decide ((0:Int)<(k:Int)+1)=true:=Yv (by omega)
    go_wp2_with (first|(go_at_call 166;refine(que_len gq _ R fr (k+1) n0 _ HQ.out).mono ?_;rintro e_ w_ ⟨rfl,hw_⟩;subst hw_)|(go_at_call 167;refine HTK.out.mono ?_;rintro e_ w11 ⟨rfl,hq2,hk11⟩;have HM:Aside0 (Sm n0 Zb A2 c2 l A3 c3 F (some ad4) c4 g3 gd gb gq w st (i+1) w11):=⟨⟨HSM.out.D.kept hk11 (fun e=>(HSEP.out gq (.inl rfl)).2.1 e.symm),HSM.out.B.kept hk11 (fun e=>(HSEP.out gq (.inl rfl)).2.2.1 e.symm),hk11.blk HSM.out.b3 (fun e=>(HSEP.out gq (.inl rfl)).2.2.2 e.symm),⟨_,R,_,by rw[HK2.out];exact hq2,by rw[HK2.out];exact HQL.out,HSEP.out⟩,hk11.toBelow HSM.out.below HSM.out.below.size (fun b hb=>by have:=HSEP.out gq (.inl rfl);omega)⟩⟩;clear hq2 hk11;have hc4:w11.cell? ⟨g3,4,none⟩=some (.slice (some ad4) n0 c4):=(Yc HM.out.b3 4).trans rfl;have hcr:=pw_cell_below HM.out.below HRC.out)|fail)
    clear hc4 hcr HRC
    obtain⟨LN,hLN⟩: ∃ n_,n_=(stL l x.v l.length).length:=⟨_,rfl⟩
    rw[← hLN] at hlen4 ⊢
    have HLN:=Ya hLN
    clear hLN
    obtain⟨w2,hw2⟩: ∃ x_:World,x_=w11:=⟨_,rfl⟩
    subst hw2
    go_loopw [54] (fun v54 w'=> ∃ (j:Nat) (stj:List (Fd S38)),j≤LN∧v54= .int .i64 j∧Aside0 (Li l F n0 s t x (proc (toP l) (esP l F) st x) stj i j)∧Aside0 (Sm n0 Zb A2 c2 l A3 c3 F (some ad4) c4 g3 gd gb gq w stj (i+1) w')) (fun v54 _=>LN - (intOf v54).toNat)
    case atStart=>exact⟨0,st,Nat.zero_le _,rfl,⟨HLP.out.inner HX.out⟩,HM⟩
    case round=>
     clear HM
     obtain⟨j,stj,hj,rfl,HLI,HSJ⟩:=hrel
     by_cases hltj:j<LN
     ·have c55:decide ((j:Int)<(LN:Int))=true:=Yv (by omega)
      have pj:(0:Int)≤(j:Int):=by omega
      have qj:(j:Int)<(LN:Int):=by omega
      obtain⟨adj,eadj,hs0,hs1⟩:=at_T38 (Yt HCV.out HSJ.out.below) (j:Int) pj (by rw[← HLN.out];exact qj)
      cases eadj
      simp only[Int.toNat_natCast] at hs0 hs1
      obtain⟨e,hee⟩: ∃ e_,e_=rd_T38 (stL l x.v l.length) (j:Int):=⟨_,rfl⟩
      rw[← hee] at hs0 hs1
      have hej:(stL l x.v l.length)[j]? =some e:=by
       rw[hee]
       unfold rd_T38
       rw[Int.toNat_natCast,List.getD_eq_getElem?_getD,List.getElem?_eq_getElem (by rw[← HLN.out];exact hltj)]
       rfl
      have hso:StepOf l e:=stL_of (List.mem_of_getElem? hej)
      have HEJ:=Ya hej
      have HSO:=Ya hso
      clear hee hej hso
      obtain⟨u,hu⟩: ∃ u_:Nat,stTo l e=(u_:Int):=⟨(stTo l e).toNat,by have:=stTo_in HR.out HSO.out;omega⟩
      obtain⟨rm,hrm⟩: ∃ d_,d_=stRoom l F e:=⟨_,rfl⟩
      obtain⟨y,hy⟩: ∃ y_,y_=(dOf n0 stj).getD u 0:=⟨_,rfl⟩
      have hun:u<n0:=by have:=stTo_in HR.out HSO.out;omega
      have hup:toP l e=u:=by unfold toP;rw[hu,Int.toNat_natCast]
      have HTO:=Ya (to_f HR.out HSO.out (n0:Int) Zb)
      have HRM:=Ya (room_f HR.out HSO.out (n0:Int) Zb)
      rw[hu] at HTO
      rw[← hrm] at HRM
      have hrm0:0≤rm:=by rw[hrm];exact(stRoom_in HR.out HSO.out).1
      have HY:=Ya hy
      have HUP:=Ya hup
      have HRMV:=Ya hrm
      have hneg:=dOf_neg stj 0 hun
      rw[← hy] at hneg
      clear hu hrm hy hup
      have pu:(0:Int)≤(u:Int):=by omega
      have qu:(u:Int)<(n0:Int):=by omega
      by_cases hmem:u∈nodes stj
      ·have hy0: ¬ y<0:=fun h=>hneg.1 h hmem
       have ey:decide (0≤y)=true:=Yv (by omega)
       have HNX:Aside0 (Li l F n0 s t x (proc (toP l) (esP l F) st x) stj i (j+1)):=⟨HLI.out.skip HEJ.out (.inr (by rw[HUP.out];exact hmem))⟩
       clear hneg hmem hy0
       go_wp2_with (first|((with_reducible refine gate_dst (N:=13) rfl ?_);refine Yz ?hg (N:=13) ?hd (cs:= #[.int .i64 0, .bool false]) (t:=38) ?hr ?_;(case hd=>rfl);(case hg=>rfl);(case hr=>first|(go_simp;done)|(go_simp;rfl));intro g8 hg w6 Zf hb;have GE8:Aside0 (wr.heap.size≤g8):=⟨Nat.le_of_eq hg.symm⟩;have B8:=Ya Zf;have HBL:=Ya hb;clear Zf hg hb;have hcz0:w6.cell? ⟨g8,0,none⟩=some (.int .i64 0):=(Yc B8.out 0).trans rfl;have hcz1:w6.cell? ⟨g8,1,none⟩=some (.bool false):=(Yc B8.out 1).trans rfl;have hfz0:=Yf B8.out 0;have hfz1:=Yf B8.out 1)|((with_reducible refine gate_store (t:=38) (p:=13) rfl ?_);refine store_event (t:=38) (p:=13) (v:= ?vo) (w1:=((w6.setCell ⟨g8,0,none⟩ (.int .i64 e.f0)).setCell ⟨g8,1,none⟩ (.bool e.f1))) ?hg ?ho ?hn ?hr ?_;(case ho=>rfl);(case hg=>rfl);(case hn=>rfl);(case hr=>first|(go_simp;done)|(go_simp;rfl));intro w8 hw;have m0_:Aside0 (w8.heap[g8]? =some (.cells #[.int .i64 e.f0, .bool e.f1] 38 (0,0))):=⟨by rw[hw];refine YA (cs:= #[.int .i64 e.f0, .bool false]) ?_ 1 _ rfl;refine YA (cs:= #[.int .i64 0, .bool false]) ?_ 0 _ rfl;exact B8.out⟩;have m1_:Aside0 (Below wr.heap.size wr w8):=⟨by rw[hw];exact Yh (Yh HBL.out GE8.out) GE8.out⟩;clear hw B8 HBL hcz0 hcz1 hfz0 hfz1 hs0 hs1;have B8:=m0_;clear m0_;have m0_:=Ya (HSJ.out.step m1_.out);have HG8:Aside0 (g8≠gd∧g8≠gb∧g8≠g3):=⟨by have h1:=HSJ.out.D.lt;have h2:=HSJ.out.B.lt;have h3:=blk_lt HSJ.out.b3;have h4:=GE8.out;omega⟩;clear HSJ m1_;have HSJ:=m0_;clear m0_;have c0:w8.cell? ⟨g3,0,none⟩=some (.int .i64 n0):=(Yc HSJ.out.b3 0).trans rfl;have c1:w8.cell? ⟨g3,1,none⟩=some (.bool Zb):=(Yc HSJ.out.b3 1).trans rfl;have c2_:w8.cell? ⟨g3,2,none⟩=some (.slice A2 l.length c2):=(Yc HSJ.out.b3 2).trans rfl;have c3_:w8.cell? ⟨g3,3,none⟩=some (.slice A3 F.length c3):=(Yc HSJ.out.b3 3).trans rfl;have s0:w8.cell? ⟨g8,0,none⟩=some (.int .i64 e.f0):=(Yc B8.out 0).trans rfl;have s1:w8.cell? ⟨g8,1,none⟩=some (.bool e.f1):=(Yc B8.out 1).trans rfl;have hcu:w8.cell? ⟨gd,u,none⟩=some (.int .i64 y):=(by rw[HY.out];exact HSJ.out.D.cell (by rw[dOf_len];exact hun)))|(go_at_call 105;refine(static_Flowing_To.calls (n0:Int) Zb A2 c2 l A3 c3 F e.f0 e.f1 (u:Int) _ (Yt H2.out HSJ.out.below) HC2.out (Yt H3.out HSJ.out.below) HC3.out HTO.out).mono ?_;rintro e_ w9 ⟨rfl,hb9⟩;have m0_:=Ya (HSJ.out.step hb9);have m1_:=Ya (Yn B8.out hb9);clear HSJ B8 hb9 c0 c1 c2_ c3_ s0 s1 hcu;have HSJ:=m0_;have B8:=m1_;clear m0_ m1_;have c0:w9.cell? ⟨g3,0,none⟩=some (.int .i64 n0):=(Yc HSJ.out.b3 0).trans rfl;have c1:w9.cell? ⟨g3,1,none⟩=some (.bool Zb):=(Yc HSJ.out.b3 1).trans rfl;have c2_:w9.cell? ⟨g3,2,none⟩=some (.slice A2 l.length c2):=(Yc HSJ.out.b3 2).trans rfl;have c3_:w9.cell? ⟨g3,3,none⟩=some (.slice A3 F.length c3):=(Yc HSJ.out.b3 3).trans rfl;have s0:w9.cell? ⟨g8,0,none⟩=some (.int .i64 e.f0):=(Yc B8.out 0).trans rfl;have s1:w9.cell? ⟨g8,1,none⟩=some (.bool e.f1):=(Yc B8.out 1).trans rfl;have hcu:w9.cell? ⟨gd,u,none⟩=some (.int .i64 y):=(by rw[HY.out];exact HSJ.out.D.cell (by rw[dOf_len];exact hun)))|fail)
       go_roundw
       case rel=>exact⟨j+1,stj,by omega,by go_num,HNX,HSJ⟩
       case measure=>simp[intOf]<;>omega
      ·have hy0:y<0:=hneg.2 hmem
       have ey:decide (0≤y)=false:=Yw (by omega)
       have HMEM:Aside0 (toP l e ∉ nodes stj):=⟨by rw[HUP.out];exact hmem⟩
       clear hneg hmem hy0
       by_cases hr0:rm=0
       ·have er:(rm == 0)=true:=beq_iff_eq.2 hr0
        have HNX:Aside0 (Li l F n0 s t x (proc (toP l) (esP l F) st x) stj i (j+1)):=⟨HLI.out.skip HEJ.out (.inl (by rw[← HRMV.out];omega))⟩
        clear hr0
        go_wp2_with (first|((with_reducible refine gate_dst (N:=13) rfl ?_);refine Yz ?hg (N:=13) ?hd (cs:= #[.int .i64 0, .bool false]) (t:=38) ?hr ?_;(case hd=>rfl);(case hg=>rfl);(case hr=>first|(go_simp;done)|(go_simp;rfl));intro g8 hg w6 Zf hb;have GE8:Aside0 (wr.heap.size≤g8):=⟨Nat.le_of_eq hg.symm⟩;have B8:=Ya Zf;have HBL:=Ya hb;clear Zf hg hb;have hcz0:w6.cell? ⟨g8,0,none⟩=some (.int .i64 0):=(Yc B8.out 0).trans rfl;have hcz1:w6.cell? ⟨g8,1,none⟩=some (.bool false):=(Yc B8.out 1).trans rfl;have hfz0:=Yf B8.out 0;have hfz1:=Yf B8.out 1)|((with_reducible refine gate_store (t:=38) (p:=13) rfl ?_);refine store_event (t:=38) (p:=13) (v:= ?vo) (w1:=((w6.setCell ⟨g8,0,none⟩ (.int .i64 e.f0)).setCell ⟨g8,1,none⟩ (.bool e.f1))) ?hg ?ho ?hn ?hr ?_;(case ho=>rfl);(case hg=>rfl);(case hn=>rfl);(case hr=>first|(go_simp;done)|(go_simp;rfl));intro w8 hw;have m0_:Aside0 (w8.heap[g8]? =some (.cells #[.int .i64 e.f0, .bool e.f1] 38 (0,0))):=⟨by rw[hw];refine YA (cs:= #[.int .i64 e.f0, .bool false]) ?_ 1 _ rfl;refine YA (cs:= #[.int .i64 0, .bool false]) ?_ 0 _ rfl;exact B8.out⟩;have m1_:Aside0 (Below wr.heap.size wr w8):=⟨by rw[hw];exact Yh (Yh HBL.out GE8.out) GE8.out⟩;clear hw B8 HBL hcz0 hcz1 hfz0 hfz1 hs0 hs1;have B8:=m0_;clear m0_;have m0_:=Ya (HSJ.out.step m1_.out);have HG8:Aside0 (g8≠gd∧g8≠gb∧g8≠g3):=⟨by have h1:=HSJ.out.D.lt;have h2:=HSJ.out.B.lt;have h3:=blk_lt HSJ.out.b3;have h4:=GE8.out;omega⟩;clear HSJ m1_;have HSJ:=m0_;clear m0_;have c0:w8.cell? ⟨g3,0,none⟩=some (.int .i64 n0):=(Yc HSJ.out.b3 0).trans rfl;have c1:w8.cell? ⟨g3,1,none⟩=some (.bool Zb):=(Yc HSJ.out.b3 1).trans rfl;have c2_:w8.cell? ⟨g3,2,none⟩=some (.slice A2 l.length c2):=(Yc HSJ.out.b3 2).trans rfl;have c3_:w8.cell? ⟨g3,3,none⟩=some (.slice A3 F.length c3):=(Yc HSJ.out.b3 3).trans rfl;have s0:w8.cell? ⟨g8,0,none⟩=some (.int .i64 e.f0):=(Yc B8.out 0).trans rfl;have s1:w8.cell? ⟨g8,1,none⟩=some (.bool e.f1):=(Yc B8.out 1).trans rfl;have hcu:w8.cell? ⟨gd,u,none⟩=some (.int .i64 y):=(by rw[HY.out];exact HSJ.out.D.cell (by rw[dOf_len];exact hun)))|(go_at_call 105;refine(static_Flowing_To.calls (n0:Int) Zb A2 c2 l A3 c3 F e.f0 e.f1 (u:Int) _ (Yt H2.out HSJ.out.below) HC2.out (Yt H3.out HSJ.out.below) HC3.out HTO.out).mono ?_;rintro e_ w9 ⟨rfl,hb9⟩;have m0_:=Ya (HSJ.out.step hb9);have m1_:=Ya (Yn B8.out hb9);clear HSJ B8 hb9 c0 c1 c2_ c3_ s0 s1 hcu;have HSJ:=m0_;have B8:=m1_;clear m0_ m1_;have c0:w9.cell? ⟨g3,0,none⟩=some (.int .i64 n0):=(Yc HSJ.out.b3 0).trans rfl;have c1:w9.cell? ⟨g3,1,none⟩=some (.bool Zb):=(Yc HSJ.out.b3 1).trans rfl;have c2_:w9.cell? ⟨g3,2,none⟩=some (.slice A2 l.length c2):=(Yc HSJ.out.b3 2).trans rfl;have c3_:w9.cell? ⟨g3,3,none⟩=some (.slice A3 F.length c3):=(Yc HSJ.out.b3 3).trans rfl;have s0:w9.cell? ⟨g8,0,none⟩=some (.int .i64 e.f0):=(Yc B8.out 0).trans rfl;have s1:w9.cell? ⟨g8,1,none⟩=some (.bool e.f1):=(Yc B8.out 1).trans rfl;have hcu:w9.cell? ⟨gd,u,none⟩=some (.int .i64 y):=(by rw[HY.out];exact HSJ.out.D.cell (by rw[dOf_len];exact hun)))|(go_at_call 104;refine(static_Flowing_Room.calls (n0:Int) Zb A2 c2 l A3 c3 F e.f0 e.f1 rm _ (Yt H2.out HSJ.out.below) HC2.out (Yt H3.out HSJ.out.below) HC3.out HRM.out).mono ?_;rintro e_ w10 ⟨rfl,hb9⟩;have m0_:=Ya (HSJ.out.step hb9);have m1_:=Ya (Yn B8.out hb9);clear HSJ B8 hb9 c0 c1 c2_ c3_ s0 s1 hcu;have HSJ:=m0_;have B8:=m1_;clear m0_ m1_;have c0:w10.cell? ⟨g3,0,none⟩=some (.int .i64 n0):=(Yc HSJ.out.b3 0).trans rfl;have c1:w10.cell? ⟨g3,1,none⟩=some (.bool Zb):=(Yc HSJ.out.b3 1).trans rfl;have c2_:w10.cell? ⟨g3,2,none⟩=some (.slice A2 l.length c2):=(Yc HSJ.out.b3 2).trans rfl;have c3_:w10.cell? ⟨g3,3,none⟩=some (.slice A3 F.length c3):=(Yc HSJ.out.b3 3).trans rfl;have s0:w10.cell? ⟨g8,0,none⟩=some (.int .i64 e.f0):=(Yc B8.out 0).trans rfl;have s1:w10.cell? ⟨g8,1,none⟩=some (.bool e.f1):=(Yc B8.out 1).trans rfl;have hcu:w10.cell? ⟨gd,u,none⟩=some (.int .i64 y):=(by rw[HY.out];exact HSJ.out.D.cell (by rw[dOf_len];exact hun)))|fail)
        go_roundw
        case rel=>exact⟨j+1,stj,by omega,by go_num,HNX,HSJ⟩
        case measure=>simp[intOf]<;>omega
       ·have er:(rm == 0)=false:=beq_eq_false_iff_ne.2 hr0
        have HRP:Aside0 (0<stRoom l F e):=⟨by rw[← HRMV.out];omega⟩
        clear hr0
        go_wp2_with (first|((with_reducible refine gate_dst (N:=13) rfl ?_);refine Yz ?hg (N:=13) ?hd (cs:= #[.int .i64 0, .bool false]) (t:=38) ?hr ?_;(case hd=>rfl);(case hg=>rfl);(case hr=>first|(go_simp;done)|(go_simp;rfl));intro g8 hg w6 Zf hb;have GE8:Aside0 (wr.heap.size≤g8):=⟨Nat.le_of_eq hg.symm⟩;have B8:=Ya Zf;have HBL:=Ya hb;clear Zf hg hb;have hcz0:w6.cell? ⟨g8,0,none⟩=some (.int .i64 0):=(Yc B8.out 0).trans rfl;have hcz1:w6.cell? ⟨g8,1,none⟩=some (.bool false):=(Yc B8.out 1).trans rfl;have hfz0:=Yf B8.out 0;have hfz1:=Yf B8.out 1)|((with_reducible refine gate_store (t:=38) (p:=13) rfl ?_);refine store_event (t:=38) (p:=13) (v:= ?vo) (w1:=((w6.setCell ⟨g8,0,none⟩ (.int .i64 e.f0)).setCell ⟨g8,1,none⟩ (.bool e.f1))) ?hg ?ho ?hn ?hr ?_;(case ho=>rfl);(case hg=>rfl);(case hn=>rfl);(case hr=>first|(go_simp;done)|(go_simp;rfl));intro w8 hw;have m0_:Aside0 (w8.heap[g8]? =some (.cells #[.int .i64 e.f0, .bool e.f1] 38 (0,0))):=⟨by rw[hw];refine YA (cs:= #[.int .i64 e.f0, .bool false]) ?_ 1 _ rfl;refine YA (cs:= #[.int .i64 0, .bool false]) ?_ 0 _ rfl;exact B8.out⟩;have m1_:Aside0 (Below wr.heap.size wr w8):=⟨by rw[hw];exact Yh (Yh HBL.out GE8.out) GE8.out⟩;clear hw B8 HBL hcz0 hcz1 hfz0 hfz1 hs0 hs1;have B8:=m0_;clear m0_;have m0_:=Ya (HSJ.out.step m1_.out);have HG8:Aside0 (g8≠gd∧g8≠gb∧g8≠g3):=⟨by have h1:=HSJ.out.D.lt;have h2:=HSJ.out.B.lt;have h3:=blk_lt HSJ.out.b3;have h4:=GE8.out;omega⟩;clear HSJ m1_;have HSJ:=m0_;clear m0_;have c0:w8.cell? ⟨g3,0,none⟩=some (.int .i64 n0):=(Yc HSJ.out.b3 0).trans rfl;have c1:w8.cell? ⟨g3,1,none⟩=some (.bool Zb):=(Yc HSJ.out.b3 1).trans rfl;have c2_:w8.cell? ⟨g3,2,none⟩=some (.slice A2 l.length c2):=(Yc HSJ.out.b3 2).trans rfl;have c3_:w8.cell? ⟨g3,3,none⟩=some (.slice A3 F.length c3):=(Yc HSJ.out.b3 3).trans rfl;have s0:w8.cell? ⟨g8,0,none⟩=some (.int .i64 e.f0):=(Yc B8.out 0).trans rfl;have s1:w8.cell? ⟨g8,1,none⟩=some (.bool e.f1):=(Yc B8.out 1).trans rfl;have hcu:w8.cell? ⟨gd,u,none⟩=some (.int .i64 y):=(by rw[HY.out];exact HSJ.out.D.cell (by rw[dOf_len];exact hun)))|(go_at_call 105;refine(static_Flowing_To.calls (n0:Int) Zb A2 c2 l A3 c3 F e.f0 e.f1 (u:Int) _ (Yt H2.out HSJ.out.below) HC2.out (Yt H3.out HSJ.out.below) HC3.out HTO.out).mono ?_;rintro e_ w9 ⟨rfl,hb9⟩;have m0_:=Ya (HSJ.out.step hb9);have m1_:=Ya (Yn B8.out hb9);clear HSJ B8 hb9 c0 c1 c2_ c3_ s0 s1 hcu;have HSJ:=m0_;have B8:=m1_;clear m0_ m1_;have c0:w9.cell? ⟨g3,0,none⟩=some (.int .i64 n0):=(Yc HSJ.out.b3 0).trans rfl;have c1:w9.cell? ⟨g3,1,none⟩=some (.bool Zb):=(Yc HSJ.out.b3 1).trans rfl;have c2_:w9.cell? ⟨g3,2,none⟩=some (.slice A2 l.length c2):=(Yc HSJ.out.b3 2).trans rfl;have c3_:w9.cell? ⟨g3,3,none⟩=some (.slice A3 F.length c3):=(Yc HSJ.out.b3 3).trans rfl;have s0:w9.cell? ⟨g8,0,none⟩=some (.int .i64 e.f0):=(Yc B8.out 0).trans rfl;have s1:w9.cell? ⟨g8,1,none⟩=some (.bool e.f1):=(Yc B8.out 1).trans rfl;have hcu:w9.cell? ⟨gd,u,none⟩=some (.int .i64 y):=(by rw[HY.out];exact HSJ.out.D.cell (by rw[dOf_len];exact hun)))|(go_at_call 104;refine(static_Flowing_Room.calls (n0:Int) Zb A2 c2 l A3 c3 F e.f0 e.f1 rm _ (Yt H2.out HSJ.out.below) HC2.out (Yt H3.out HSJ.out.below) HC3.out HRM.out).mono ?_;rintro e_ w10 ⟨rfl,hb9⟩;have m0_:=Ya (HSJ.out.step hb9);have m1_:=Ya (Yn B8.out hb9);clear HSJ B8 hb9 c0 c1 c2_ c3_ s0 s1 hcu;have HSJ:=m0_;have B8:=m1_;clear m0_ m1_;have c0:w10.cell? ⟨g3,0,none⟩=some (.int .i64 n0):=(Yc HSJ.out.b3 0).trans rfl;have c1:w10.cell? ⟨g3,1,none⟩=some (.bool Zb):=(Yc HSJ.out.b3 1).trans rfl;have c2_:w10.cell? ⟨g3,2,none⟩=some (.slice A2 l.length c2):=(Yc HSJ.out.b3 2).trans rfl;have c3_:w10.cell? ⟨g3,3,none⟩=some (.slice A3 F.length c3):=(Yc HSJ.out.b3 3).trans rfl;have s0:w10.cell? ⟨g8,0,none⟩=some (.int .i64 e.f0):=(Yc B8.out 0).trans rfl;have s1:w10.cell? ⟨g8,1,none⟩=some (.bool e.f1):=(Yc B8.out 1).trans rfl;have hcu:w10.cell? ⟨gd,u,none⟩=some (.int .i64 y):=(by rw[HY.out];exact HSJ.out.D.cell (by rw[dOf_len];exact hun)))|fail)
        obtain⟨lv,hlv⟩: ∃ n_,n_=x.lv:=⟨_,rfl⟩
        have hxm:x∈stj:=List.mem_of_getElem? HLI.out.at_
        have hlv50:x.lv<50:=by have:=lv_lt HLI.out.fds hxm;have:=fds_len HLI.out.fds (esP_to HR.out) hs;omega
        have hcv:w10.cell? ⟨gd,x.v,none⟩=some (.int .i64 (lv:Int)):=by
         rw[hlv, ← dOf_mem HLI.out.fds.nodup hxm 0 hxn]
         exact HSJ.out.D.cell (by rw[dOf_len];exact hxn)
        rw[← hlv] at hlv50
        have HLV:=Ya hlv
        clear hlv hxm c0 c1 c2_ c3_
        obtain⟨hb0,hb1⟩:=HSJ.out.B.cell z38 (j:=u) (by rw[bOf_len];exact hun)
        generalize ((bOf z38 n0 stj).getD u z38)=zz at hb0 hb1
        have fd:=HSJ.out.D.free u
        have fb0:=HSJ.out.B.free (u * 2)
        have fb1:=HSJ.out.B.free (u * 2+1)
        obtain⟨n1,n2,n3⟩:=HG8.out
        obtain⟨n4,n5,n6,n7,n8⟩:=GD.out
        have pl0:(0:Int)≤(lv:Int):=by omega
        have pl1:(lv:Int)<50:=by omega
        go_region
        have m0_:Aside0 (IsI (seekW w10 gd gb u ((lv:Int)+1) e) gd (dOf n0 (stj ++ [⟨toP l e,e,x.lv+1⟩]))):=⟨by
         rw[dOf_snoc n0 HMEM.out,HUP.out, ← HLV.out]
         exact seek_D HSJ.out.D n6 u _ e⟩
        have m1_:Aside0 (IsS (seekW w10 gd gb u ((lv:Int)+1) e) gb (bOf z38 n0 (stj ++ [⟨toP l e,e,x.lv+1⟩]))):=⟨by
         rw[bOf_snoc z38 n0 HMEM.out,HUP.out]
         exact seek_B HSJ.out.B n6 u _ e⟩
        have m2_:Aside0 ((seekW w10 gd gb u ((lv:Int)+1) e).heap[g3]? =some (.cells #[.int .i64 n0, .bool Zb, .slice A2 l.length c2, .slice A3 F.length c3, .slice (some ad4) n0 c4] 118 (0,0))):=⟨(seek_far w10 u _ e n4 n5).trans HSJ.out.b3⟩
        have m3_:Aside0 (Below w.heap.size w (seekW w10 gd gb u ((lv:Int)+1) e)):=⟨below_drew (Yh (Yh (Yh HSJ.out.below n7) n8) n8)⟩
        obtain⟨Aj,Rj,frj,hqj,hqlj,hsj⟩:=HSJ.out.que
        have hqj2:=hqj.step (w1:=seekW w10 gd gb u ((lv:Int)+1) e) (fun k _ hk=>seek_far w10 u _ e (hsj k hk).2.1 (hsj k hk).2.2.1)
        have HQJ:=Ya hqj2
        have HQLJ:=Ya hqlj
        have HSEPJ:=Ya hsj
        have hif:i<stj.length:=(List.getElem?_eq_some_iff.1 HLI.out.at_).1
        have hadd:=HLI.out.add HEJ.out HRP.out HMEM.out
        have hcount:stj.length+1≤n0:=by have:=fds_len hadd.1 (esP_to HR.out) hs;simpa using this
        clear hqj hqj2 hqlj hsj HSJ B8 hb0 hb1 fd fb0 fb1 hcv hcu s0 s1 n1 n2 n3 hadd HG8
        have HD:=m0_
        have HS:=m1_
        have B3:=m2_
        have HB:=m3_
        clear m0_ m1_ m2_ m3_
        generalize hw12:(((w10.setCell ⟨gd,u,none⟩ (.int .i64 ((lv:Int)+1))).setCell ⟨gb,u * 2,none⟩ (.int .i64 e.f0)).setCell ⟨gb,u * 2+1,none⟩ (.bool e.f1)).drew=w12
        rw[show seekW w10 gd gb u ((lv:Int)+1) e=w12 from hw12] at HD HS B3 HB HQJ
        clear hw12
        by_cases htu:t=(u:Int)
        ·have et:((u:Int) == t)=true:=by rw[htu];simp
         have HSN:=Ya (HLI.out.found HLP.out HX.out (by omega) HEJ.out HRP.out HMEM.out (by rw[HUP.out];exact htu))
         clear htu
         go_wp2_with fail
         rw[Exit.noGoto_ret]
         go_ret2
         exact⟨gd,gb,_,rfl,n7,n8,n6,HD.out,HS.out,HB.out,HSN.out⟩
        ·have et:((u:Int) == t)=false:=beq_eq_false_iff_ne.2 (Ne.symm htu)
         have HNX:=Ya (HLI.out.put HEJ.out HRP.out HMEM.out (by rw[HUP.out];exact htu))
         clear htu
         go_wp2_with (first|(go_at_call 165;refine(que_put gq Aj Rj frj (stj.length - (i+1)) n0 (u:Int) _ HQJ.out (by omega)).mono ?_;rintro e_ w13 ⟨rfl,A',R',fr',hq',hql',hk',hs'⟩;have HM:Aside0 (Sm n0 Zb A2 c2 l A3 c3 F (some ad4) c4 g3 gd gb gq w (stj ++ [⟨toP l e,e,x.lv+1⟩]) (i+1) w13):=⟨⟨HD.out.kept hk' (fun h=>(HSEPJ.out _ h).2.1 rfl),HS.out.kept hk' (fun h=>(HSEPJ.out _ h).2.2.1 rfl),hk'.blk B3.out (fun h=>(HSEPJ.out _ h).2.2.2 rfl),⟨A',R',fr',by rw[List.length_append,List.length_singleton,show stj.length+1 - (i+1)=stj.length - (i+1)+1 by omega];exact hq',by rw[List.length_append,List.length_singleton,show stj.length+1 - (i+1)=stj.length - (i+1)+1 by omega,hql',HQLJ.out,qOf_snoc (by omega)];show _=qOf stj (i+1) ++ [((toP l e:Nat):Int)];rw[HUP.out],fun k hk=>(hs' k hk).elim (HSEPJ.out k) (fun h=>by have h1:=HB.out.size;have h2:=HD.out.lt;have h3:=HS.out.lt;have h4:=blk_lt B3.out;omega)⟩,hk'.toBelow HB.out HB.out.size (fun b hb=>(HSEPJ.out b hb).1)⟩⟩;clear HD HS B3 HB hq' hql' hk' hs')|fail)
         go_roundw
         case rel=>exact⟨j+1,_,by omega,by go_num,HNX,HM⟩
         case measure=>simp[intOf]<;>omega
     ·have ej:j=LN:=by omega
      subst ej
      have c55:decide ((j:Int)<(j:Int))=false:=Yw (by omega)
      go_wp2_with fail
      go_roundw
      case rel=>exact⟨_,stj,i+1,rfl,Li.next HR.out hs HLP.out HX.out (by have h_:=HLI.out;rw[HLN.out] at h_;exact h_),HSJ.out⟩
      case measure=>exact least_lt ⟨stj,i+1,rfl,Li.next HR.out hs HLP.out HX.out (by have h_:=HLI.out;rw[HLN.out] at h_;exact h_),HSJ.out⟩ (by rw[← HLE.out,HMI.out];omega)
   ·have hi:i=st.length:=by omega
    rw[show st.length - i=0 by omega] at hq
    have HQ:=Ya hq
    clear hq hql hsep
    go_wp2_with (first|(go_at_call 166;refine(que_len gq A R fr 0 n0 _ HQ.out).mono ?_;rintro e_ w_ ⟨rfl,hw_⟩;subst hw_)|fail)
    rw[Exit.noGoto_ret]
    go_ret2
    have hg:=GD.out
    exact⟨gd,gb,st,rfl,hg.2.2.2.1,hg.2.2.2.2,hg.2.2.1,HSM.out.D,HSM.out.B,HSM.out.below,HLP.out.seen hi⟩
end H
namespace H
open P
def revM (M:Nat→S38) (N i x:Nat):S38:=if x<i∨N - i≤x then M (N - 1 - x) else M x
theorem revM_step (M:Nat→S38) (N i j:Nat) (h:i+j+1=N) (hij:i<j) (x:Nat) (hx:x<N):revM M N (i+1) x=upd (upd (revM M N i) i (revM M N i j)) j (revM M N i i) x:=by
 unfold upd revM
 by_cases e1:x=j
 ·subst e1
  rw[Yx (by omega),Yx rfl,Yy (by omega)]
  congr 1;omega
 ·rw[Yy e1]
  by_cases e2:x=i
  ·subst e2
   rw[Yx (by omega),Yx rfl,Yy (by omega)]
   congr 1;omega
  ·rw[Yy e2]
   by_cases e3:x<i∨N - i≤x
   ·rw[Yx (by omega),Yx e3]
   ·rw[Yy (by omega),Yy e3]
set_option maxHeartbeats 2000000 in
set_option maxRecDepth 100000 in
theorem reverse_calls (g N cap:Nat) (M:Nat→S38) (w:World) (h:Arr w g N M) (hN0:0<N) (hN:N≤1000000):
  Calls Try.prog 148 #[.slice (some ⟨g,0,none⟩) N cap] w fun e w'=>e= .returned (.tuple #[])∧Arr w' g N (fun x=>M (N - 1 - x))∧Fr w w' g:=by
 have HA:=Ya h
 have p0:(0:Int)<(N:Int):=by omega
 have p1:(N:Int)≤1000000:=by omega
 clear h
 go_enter Try.func148,Try.ntmps148
 go_wp2_with fail
 go_loopw [2,3] (fun v2 v3 w'=> ∃ i j:Nat,i+j+1=N∧v2= .int .i64 i∧v3= .int .i64 j∧i≤j+1∧Aside0 (Arr w' g N (revM M N i))∧Aside0 (Fr w w' g)) (fun v2 _ _=>N - (intOf v2).toNat)
 case atStart=>exact⟨0,N - 1,by omega,rfl,by first|go_num|(congr 1;omega),by omega,⟨HA.out.congr (fun x hx=>by unfold revM;rw[Yy (by omega)])⟩,⟨grow_refl w g⟩⟩
 case round=>
  obtain⟨i,j,hij,rfl,rfl,hle,HR,HF⟩:=hrel
  by_cases hlt:i<j
  ·have e1:decide ((i:Int)<(j:Int))=true:=Yv (by omega)
   have q0:(0:Int)≤(i:Int):=by omega
   have q1:(i:Int)<(N:Int):=by omega
   have q2:(0:Int)≤(j:Int):=by omega
   have q3:(j:Int)<(N:Int):=by omega
   have q4:(1:Int)≤(j:Int):=by omega
   have a0:=HR.out.cell0 (x:=i) (by omega)
   have a1:=HR.out.cell1 (x:=i) (by omega)
   have b0:=HR.out.cell0 (x:=j) (by omega)
   have b1:=HR.out.cell1 (x:=j) (by omega)
   have f0:=HR.out.free (i * 2)
   have f1:=HR.out.free (i * 2+1)
   have f2:=HR.out.free (j * 2)
   have f3:=HR.out.free (j * 2+1)
   have n1:i * 2≠j * 2:=by omega
   have n2:i * 2≠j * 2+1:=by omega
   have n3:i * 2+1≠j * 2:=by omega
   have n4:i≠j:=by omega
   have HA2:=Ya ((((HR.out.put (x:=i) (by omega) (revM M N i j)).put (x:=j) (by omega) (revM M N i i)).congr (fun x hx=>revM_step M N i j hij hlt x hx)).drew)
   have HF2:Aside0 (Fr w ((((((wr.setCell ⟨g,i * 2,none⟩ (.int .i64 (revM M N i j).f0)).setCell ⟨g,i * 2+1,none⟩ (.bool (revM M N i j).f1)).setCell ⟨g,j * 2,none⟩ (.int .i64 (revM M N i i).f0)).setCell ⟨g,j * 2+1,none⟩ (.bool (revM M N i i).f1)).drew)) g):=⟨grow_drew (grow_set (grow_set (grow_set (grow_set HF.out _ _) _ _) _ _) _ _)⟩
   clear HR HF
   generalize revM M N i i=si at *
   generalize revM M N i j=sj at *
   go_wp2_with fail
   go_region
   clear a0 a1 b0 b1 f0 f1 f2 f3 n1 n2 n3 n4
   generalize ((((wr.setCell ⟨g,i * 2,none⟩ (.int .i64 sj.f0)).setCell ⟨g,i * 2+1,none⟩ (.bool sj.f1)).setCell ⟨g,j * 2,none⟩ (.int .i64 si.f0)).setCell ⟨g,j * 2+1,none⟩ (.bool si.f1)).drew=w9 at HA2 HF2 ⊢
   go_wp2_with fail
   go_roundw
   case rel=>exact⟨i+1,j - 1,by omega,by go_num,by first|go_num|(congr 1;omega),by omega,HA2,HF2⟩
   case measure=>simp[intOf]<;>omega
  ·have e1:decide ((i:Int)<(j:Int))=false:=Yw (by omega)
   go_wp2_with fail
   refine bodyPost_end (results_none rfl _ _ _) rfl ⟨rfl,HR.out.congr (fun x hx=> ?_),HF.out⟩
   unfold revM
   by_cases e3:x<i∨N - i≤x
   ·rw[Yx e3]
   ·rw[Yy e3]
    congr 1;omega
theorem map_rev (xs:List S38) (z:S38):(List.range xs.length).map (fun x=>xs.getD (xs.length - 1 - x) z)=xs.reverse:=by
 apply List.ext_getElem (by simp)
 intro j h1 h2
 have hj:j<xs.length:=by simpa using h2
 rw[List.getElem_map,List.getElem_range,List.getElem_reverse,List.getD_eq_getElem?_getD,List.getElem?_eq_getElem (by omega)]
 rfl
theorem reverse_row (base:Nat) (ok:Nat→Prop) (v:Value) (xs:List S38) (w:World) (h:Kd.R k38 38 w base ok v xs) (hp:0<xs.length) (hl:xs.length≤1000000):
  Calls Try.prog 148 #[v] w fun e w'=>e= .returned (.tuple #[])∧Kd.R k38 38 w' base ok v xs.reverse∧w.grownBy w' v.ownBlock:=by
 obtain⟨g,cap,rfl,hb,hlt,_⟩:=Kd.R_form h hp
 refine(reverse_calls g xs.length cap _ w (arr_of_R h hp) hp hl).mono ?_
 rintro e w' ⟨rfl,ha,hf⟩
 have hr:=R_of_arr (ok':=ok) h rfl hp ha hf (h.1 g rfl)
 rw[map_rev] at hr
 exact⟨rfl,hr,hf.1⟩
end H
namespace H
open P Q
def endsErr (n:Int) (l:List S74) (s t:Int):Int:=if netErr n l=0 then(if 0≤s∧s<n∧0≤t∧t<n∧s≠t then 0 else 70) else netErr n l
end H
namespace H
open P
attribute [local irreducible] wpQuiet
theorem fromS_f {l:List S74} {F:List Int} {n:Nat} (hr:Right l F n) {s:S38} (hs:StepOf l s) (a:Int) (b:Bool):static_Flowing_From.f a b l F s.f0 s.f1=some (stFrom l s):=by
 obtain⟨i,h1,h2⟩:=hs
 unfold static_Flowing_From.f stFrom eFrom eTo
 rw[h2]
 cases s.f1<;>simp[h1]
set_option maxHeartbeats 2000000 in
set_option maxRecDepth 100000 in
theorem far_calls (n0:Nat) (Zb:Bool) (A2:Option Addr) (c2:Nat) (l:List S74) (A3:Option Addr) (c3:Nat) (F:List Int) (A4:Option Addr) (c4:Nat) (s:Nat) (w:World)
  (hR:Right l F n0) (hs:s<n0) (hc2:l.length≤c2) (hc3:F.length≤c3) (h2:Kd.C k74 w A2 l.length l) (h3:Kd.C (Kd.int .i64) w A3 F.length F) (h4:(Kd.slice 38 k38).C w A4 n0 (rowsAt l n0 n0)):
  Calls Try.prog 108 #[.agg #[.int .i64 n0, .bool Zb, .slice A2 l.length c2, .slice A3 F.length c3, .slice A4 n0 c4], .int .i64 (s:Int)] w fun e w'=> ∃ gd:Nat,e= .returned (.slice (some ⟨gd,0,none⟩) n0 n0)∧w.heap.size≤gd∧IsI w' gd (dOf n0 (bfP l F n0 s))∧Below w.heap.size w w':=by
 have hu118:=Try.underlying118
 have HR:=Ya hR
 have HC2:=Ya hc2
 have HC3:=Ya hc3
 have H2:=Ya h2
 have H3:=Ya h3
 have H4:=Ya h4
 have HB:=Ya (Yo w.heap.size w)
 clear hR h2 h3 h4 hc2 hc3
 go_enter Try.func108,Try.ntmps108
 go_wp2_with (first|((with_reducible refine gate_dst (N:=2) rfl ?_);refine Yz ?hg (N:=2) ?hd (cs:= #[.int .i64 n0, .bool Zb, .slice A2 l.length c2, .slice A3 F.length c3, .slice A4 n0 c4]) (t:=118) ?hr ?_;(case hd=>rfl);(case hg=>rfl);(case hr=>first|(go_simp;done)|(go_simp;rfl));intro g3 hg w5 Zf hb;have n0_:=Ya (Yk HB.out hb);have B3:=Ya Zf;clear HB;have HB:=n0_;have GE3:Aside0 (w.heap.size≤g3):=⟨Nat.le_of_eq hg.symm⟩;clear n0_ hb Zf hg;have c0:w5.cell? ⟨g3,0,none⟩=some (.int .i64 n0):=(Yc B3.out 0).trans rfl;have c1:w5.cell? ⟨g3,1,none⟩=some (.bool Zb):=(Yc B3.out 1).trans rfl;have c2_:w5.cell? ⟨g3,2,none⟩=some (.slice A2 l.length c2):=(Yc B3.out 2).trans rfl;have c3_:w5.cell? ⟨g3,3,none⟩=some (.slice A3 F.length c3):=(Yc B3.out 3).trans rfl;have c4_:w5.cell? ⟨g3,4,none⟩=some (.slice A4 n0 c4):=(Yc B3.out 4).trans rfl)|(go_at_call 145;refine(seek_calls n0 Zb A2 c2 l A3 c3 F A4 c4 s (-1) _ HR.out hs (by omega) HC2.out HC3.out (Yt H2.out HB.out) (Yt H3.out HB.out) (Yt H4.out HB.out)).mono ?_;rintro e_ w6 ⟨gd,gb,st,rfl,hg1,hg2,hg3,hd,hs_,hb,hsn⟩;have HD:=Ya hd;have HSN:=Ya hsn;have HG:=Ya hg1;have m0_:=Ya (Yk HB.out hb);have HS5:=HB.out.size;clear HB B3 hd hs_ hb hsn hg1 hg2 hg3 c0 c1 c2_ c3_ c4_;have HB:=m0_;clear m0_)|fail)
 go_ret
 have e:_=bfP l F n0 s:=HSN.out.hit.resolve_right (by rintro⟨tn,h1,_⟩;omega)
 refine⟨gd,rfl,by have:=HG.out;omega,?_,HB.out⟩
 have h_:=HD.out
 rw[e] at h_
 exact h_
end H
namespace H
open P
attribute [local irreducible] wpQuiet
set_option maxHeartbeats 4000000 in
set_option maxRecDepth 100000 in
theorem fastest_calls (n0:Nat) (Zb:Bool) (A2:Option Addr) (c2:Nat) (l:List S74) (A3:Option Addr) (c3:Nat) (F:List Int) (A4:Option Addr) (c4:Nat) (AD:Option Addr) (cD:Nat) (AI:Option Addr) (cI:Nat) (AB:Option Addr) (cB:Nat) (x:Rch) (rk:Nat→Nat) (s t:Nat) (w:World)
  (hR:Right l F n0) (hx:x.Ok n0) (hby:ByOk l F n0 s x rk) (hs:s<n0) (ht:t<n0) (hts:s≠t) (hI:x.I.getD t false=true) (hc2:l.length≤c2) (hc3:F.length≤c3) (h2:Kd.C k74 w A2 l.length l) (h3:Kd.C (Kd.int .i64) w A3 F.length F) (h5:Kd.C k38 w AB n0 x.B):
  Calls Try.prog 152 #[.agg #[.int .i64 (n0:Int), .bool Zb, .slice A2 l.length c2, .slice A3 F.length c3, .slice A4 n0 c4], .agg #[.slice AD n0 cD, .slice AI n0 cI, .slice AB n0 cB], .int .i64 (s:Int), .int .i64 (t:Int)] w fun e w'=> ∃ v:Value,e= .returned v∧Kd.R k38 38 w' w.heap.size (fun _=>True) v (backB l x s (n0+1) t).reverse∧Below w.heap.size w w':=by
 have hu118:=Try.underlying118
 have hu115:=Try.underlying115
 have hu109:=Try.underlying109
 have hn50:=hR.fifty
 obtain⟨ad,eAB,_⟩:=h5.2.2 (by omega)
 subst eAB
 obtain⟨FULL,hFU⟩: ∃ L_,L_=backB l x s (n0+1) t:=⟨_,rfl⟩
 rw[← hFU]
 have HFU:=Ya hFU
 have HR:=Ya hR
 have HX:=Ya hx
 have HBY:=Ya hby
 have HIT:=Ya hI
 have HC2:=Ya hc2
 have HC3:=Ya hc3
 have H2:=Ya h2
 have H3:=Ya h3
 have H5:=Ya h5
 have HB:=Ya (Yo w.heap.size w)
 clear hR hx hby hI hc2 hc3 h2 h3 h5 hFU
 go_enter Try.func152,Try.ntmps152
 go_upto_region 2 with (first|((with_reducible refine gate_dst (N:=4) rfl ?_);refine Yz ?hg (N:=4) ?hd (cs:= #[.int .i64 (n0:Int), .bool Zb, .slice A2 l.length c2, .slice A3 F.length c3, .slice A4 n0 c4]) (t:=118) ?hr ?_;(case hd=>rfl);(case hg=>rfl);(case hr=>first|(go_simp;done)|(go_simp;rfl));intro g4 hg w5 Zf hb;have B4:=Ya Zf;have m0_:=Ya (Yk HB.out hb);clear HB hb Zf hg;have HB:=m0_;clear m0_)|((with_reducible refine gate_dst (N:=5) rfl ?_);refine Yz ?hg (N:=5) ?hd (cs:= #[.slice AD n0 cD, .slice AI n0 cI, .slice (some ad) n0 cB]) (t:=109) ?hr ?_;(case hd=>rfl);(case hg=>rfl);(case hr=>first|(go_simp;done)|(go_simp;rfl));intro g5 hg w6 Zf hb;have B5:=Ya Zf;have m0_:=Ya (Yk HB.out hb);have m1_:=Ya (Yn B4.out hb);clear HB B4 hb Zf hg;have HB:=m0_;have B4:=m1_;clear m0_ m1_)|fail)
 have HO:Aside0 (Kd.R k38 38 (w6.alloc (.cells #[] 38)) w.heap.size (fun k=>k≠g4∧k≠g5) (.slice (some ⟨w6.heap.size,0,none⟩) 0 0) []):=⟨IsS.R (B:=[]) (heap_alloc_new w6 _) (by simp) HB.out.size ⟨by have:=blk_lt B4.out;omega,by have:=blk_lt B5.out;omega⟩⟩
 have m0_:=Ya (Ye HB.out (.cells #[] 38))
 have m1_:=Ya (Yn B4.out (Ye (Yo _ _) (.cells #[] 38)))
 have m2_:=Ya (Yn B5.out (Ye (Yo _ _) (.cells #[] 38)))
 clear HB B4 B5
 have HB:=m0_
 have B4:=m1_
 have B5:=m2_
 clear m0_ m1_ m2_
 generalize w6.alloc (.cells #[] 38)=w7 at *
 generalize Value.slice (some ⟨w6.heap.size,0,none⟩) 0 0=v0 at *
 go_wp2_with fail
 go_loopw [9,10] (fun v9 v10 w'=> ∃ (v m:Nat) (O:List S38),v10= .int .i64 (v:Int)∧v<n0∧Aside0 (x.I.getD v false=true)∧Aside0 (cntB rk n0 v<m)∧Aside0 (O ++ backB l x s m v=FULL)∧Aside0 (O.length+cntB rk n0 v≤50)∧Aside0 (Kd.R k38 38 w' w.heap.size (fun k=>k≠g4∧k≠g5) v9 O)∧Aside0 (w'.heap[g4]? =some (.cells #[.int .i64 (n0:Int), .bool Zb, .slice A2 l.length c2, .slice A3 F.length c3, .slice A4 n0 c4] 118 (0,0)))∧Aside0 (w'.heap[g5]? =some (.cells #[.slice AD n0 cD, .slice AI n0 cI, .slice (some ad) n0 cB] 109 (0,0)))∧Aside0 (Below w.heap.size w w')) (fun _ v10 _=>cntB rk n0 (intOf v10).toNat)
 case atStart=>exact⟨t,n0+1,[],rfl,ht,HIT,⟨by have:=cntB_le rk n0 t;omega⟩,⟨by rw[List.nil_append];exact HFU.out.symm⟩,⟨by have:=cntB_le rk n0 t;show 0+_≤_;omega⟩,HO,B4,B5,HB⟩
 case round=>
  clear HO B4 B5 HB
  obtain⟨v,m,O,rfl,hv,HI,HM,HBK,HLN,HO,B4,B5,HB⟩:=hrel
  obtain⟨m,rfl⟩: ∃ m_,m=m_+1:=⟨m - 1,by have:=HM.out;omega⟩
  by_cases hvs:v=s
  ·have e1:((v:Int) != (s:Int))=false:=by rw[hvs];simp
   have hO:O=FULL:=by
    have h_:=HBK.out
    rw[backB,Yx hvs,List.append_nil] at h_
    exact h_
   have hlp:0<O.length:=by
    rw[hO,HFU.out,backB,Yy (Ne.symm hts)]
    simp
   have HOE:=Ya hO
   have HLP:=Ya hlp
   clear hO hlp hvs
   go_wp2_with (first|(go_at_call 148;refine(reverse_row w.heap.size _ u9 O _ HO.out HLP.out (by have:=HLN.out;omega)).mono ?_;rintro e_ w9 ⟨rfl,hr,hg⟩;have m0_:=Ya hr;have m1_:=Ya (pw_below_grown HB.out _ HB.out.size hg (fun k hk=>Kd.R_base HO.out k hk));clear HO HB hr hg;have HO:=m0_;have HB:=m1_;clear m0_ m1_)|fail)
   go_ret
   exact⟨_,rfl,by rw[← HOE.out];exact Kd.R_mono HO.out (fun _ _=>trivial),HB.out⟩
  ·have e1:((v:Int) != (s:Int))=true:=by rw[bne_iff_ne];omega
   obtain⟨a1,a2,a3,a4,a5,a6⟩:=HBY.out.is_ v hv HI.out hvs
   obtain⟨e,hee⟩: ∃ e_,e_=x.B.getD v z38:=⟨_,rfl⟩
   have hfl:=frP_lt HR.out a1
   have hlt:=cntB_lt (n:=n0) hfl a6
   have hff:=stFrom_in HR.out a1
   have hfm:=fromS_f HR.out a1 (n0:Int) Zb
   rw[← hee] at a1 a4 hfl hlt hff hfm
   obtain⟨u,hu⟩: ∃ u_,u_=frP l e:=⟨_,rfl⟩
   have hfi:stFrom l e=(u:Int):=by rw[hu];unfold frP;omega
   rw[hfi] at hfm
   rw[← hu] at a4 hfl hlt
   have HFM:=Ya hfm
   have HBK2:Aside0 ((O ++ [e]) ++ backB l x s m u=FULL):=⟨by rw[← HBK.out,backB,Yy hvs, ← hee, ← hu,List.append_assoc];rfl⟩
   have HA4:=Ya a4
   have HM2:Aside0 (cntB rk n0 u<m):=⟨by have:=HM.out;omega⟩
   have HLN2:Aside0 ((O ++ [e]).length+cntB rk n0 u≤50):=⟨by rw[List.length_append,List.length_singleton];have:=HLN.out;omega⟩
   have HLT:=Ya hlt
   have hOl:O.length≤50:=by have:=HLN.out;omega
   have hB:=HX.out.hB
   have pv:(0:Int)≤(v:Int):=by omega
   have qv:(v:Int)<(n0:Int):=by omega
   obtain⟨ad',ead,b0,b1⟩:=at_T38 (Yt H5.out HB.out) (v:Int) pv qv
   injection ead with ead
   subst ead
   have hrd:rd_T38 x.B (v:Int)=e:=by rw[hee];unfold rd_T38;rw[Int.toNat_natCast]
   have HRD:=Ya hrd
   rw[hrd,Int.toNat_natCast] at b0 b1
   clear a1 a2 a3 a4 a5 a6 hlt hff hfm hfi hu hee hrd HBK HM hvs hB HI
   have x2:wr.cell? ⟨g5,2,none⟩=some (.slice (some ad) n0 cB):=(Yc B5.out 2).trans rfl
   go_wp2_with (first|((with_reducible refine gate_builtin (b:= .append) (xs:= #[.tmp 24, .tmp 30]) rfl ?_);at_builtin;refine Kd.R_append k38 (w0:=w) w.heap.size rfl (.tmp 24) (.tmp 30) 34 38 (.agg #[(.int .i64 0),(.bool false)]) 16 rfl Try.underlying34 info38 rfl (by decide) (by omega) u9 O e [.int .i64 e.f0, .bool e.f1] (fun k=>k≠g4∧k≠g5) (fun _=>False) rfl rfl ?aP (fun _ hk=>hk.elim) ?aF ?aO ?aB ?aS ?aL ?_;(case aP=>exact k38_mkM _ _ _ e);(case aF=>exact(fun k hk=>⟨by have:=blk_lt B4.out;omega,by have:=blk_lt B5.out;omega⟩));(case aO=>exact HO.out);(case aB=>exact HB.out);(case aS=>exact HB.out.size);(case aL=>omega);intro v1 w9 ho hb hg hat;have m0_:=Ya ho;have m1_:=Ya hb;have m2_:=Ya ((hg.block g4 (blk_lt B4.out) (fun h=>(HO.out.1 g4 h.symm).1 rfl)).trans B4.out);have m3_:=Ya ((hg.block g5 (blk_lt B5.out) (fun h=>(HO.out.1 g5 h.symm).2 rfl)).trans B5.out);clear HO B4 B5 HB ho hb hg hat b0 b1 x2;have HO:=m0_;have HB:=m1_;have B4:=m2_;have B5:=m3_;clear m0_ m1_ m2_ m3_)|fail)
   obtain⟨ad',ead,d0,d1⟩:=at_T38 (Yt H5.out HB.out) (v:Int) pv qv
   injection ead with ead
   subst ead
   rw[HRD.out,Int.toNat_natCast] at d0 d1
   have q0: ∀ p:BelowW w9,p.at_.cell? ⟨g4,0,none⟩=some (.int .i64 (n0:Int)):=fun p=>p.cell ((Yc B4.out 0).trans rfl)
   have q1: ∀ p:BelowW w9,p.at_.cell? ⟨g4,1,none⟩=some (.bool Zb):=fun p=>p.cell ((Yc B4.out 1).trans rfl)
   have q2: ∀ p:BelowW w9,p.at_.cell? ⟨g4,2,none⟩=some (.slice A2 l.length c2):=fun p=>p.cell ((Yc B4.out 2).trans rfl)
   have q3: ∀ p:BelowW w9,p.at_.cell? ⟨g4,3,none⟩=some (.slice A3 F.length c3):=fun p=>p.cell ((Yc B4.out 3).trans rfl)
   have q4: ∀ p:BelowW w9,p.at_.cell? ⟨g5,2,none⟩=some (.slice (some ad) n0 cB):=fun p=>p.cell ((Yc B5.out 2).trans rfl)
   have q5: ∀ p:BelowW w9,p.at_.cell? (ad.add (v * 2))=some (.int .i64 e.f0):=fun p=>p.cell d0
   have q6: ∀ p:BelowW w9,p.at_.cell? ⟨(ad.add (v * 2)).block,(ad.add (v * 2)).off+1,none⟩=some (.bool e.f1):=fun p=>p.cell d1
   have HCA:Aside0 (∀ p:BelowW w9,Kd.C k74 p.at_ A2 l.length l):=⟨fun p=>Yt (Yt H2.out HB.out) p.below⟩
   have HCF:Aside0 (∀ p:BelowW w9,Kd.C (Kd.int .i64) p.at_ A3 F.length F):=⟨fun p=>Yt (Yt H3.out HB.out) p.below⟩
   clear d0 d1
   refine wp_region_quiet_below (by kernel_rfl) (by kernel_rfl) ?_;(repeat(quiet_step ((first|(go_at_call 106;exact calls_below_of (static_Flowing_From.calls (n0:Int) Zb A2 c2 l A3 c3 F e.f0 e.f1 (u:Int) _ (HCA.out _) HC2.out (HCF.out _) HC3.out HFM.out))))));refine wpQuiet_nil ?_;intro wq hw';obtain⟨⟨wz,hbq⟩,hwq⟩:=hw';subst hwq
   have m0_:=Ya (Ys HO.out hbq)
   have m1_:=Ya (Yn B4.out hbq)
   have m2_:=Ya (Yn B5.out hbq)
   have m3_:=Ya (Yk HB.out hbq)
   clear HO B4 B5 HB HCA HCF q0 q1 q2 q3 q4 q5 q6 hbq
   have HO:=m0_
   have B4:=m1_
   have B5:=m2_
   have HB:=m3_
   clear m0_ m1_ m2_ m3_
   go_wp2_with fail
   go_roundw
   case rel=>exact⟨u,m,O ++ [e],rfl,hfl,HA4,HM2,HBK2,HLN2,HO,B4,B5,HB⟩
   case measure=>have h_:=HLT.out;simpa [intOf] using h_
end H
namespace H
open P
set_option maxHeartbeats 2000000 in
set_option maxRecDepth 100000 in
theorem go_calls (n0:Int) (Zb:Bool) (A2:Option Addr) (c2:Nat) (l:List S74) (gF cF:Nat) (F:List Int) (s:S38) (k:Int) (w:World)
  (hF:IsI w gF F) {i:Nat} (hi:i<F.length) (hs:s.f0=i) (hk: -9223372036854775808<k∧k≤9223372036854775807)
  (h1:s.f1=false→ -9223372036854775808≤F.getD i 0+k∧F.getD i 0+k≤9223372036854775807) (h2:s.f1=true→ -9223372036854775808≤F.getD i 0 - k∧F.getD i 0 - k≤9223372036854775807):
  Calls Try.prog 154 #[.agg #[.int .i64 n0, .bool Zb, .slice A2 l.length c2, .slice (some ⟨gF,0,none⟩) F.length cF], .agg #[.int .i64 s.f0, .bool s.f1], .int .i64 k] w fun e w'=>e= .returned (.tuple #[])∧IsI w' gF (goS F s k)∧Ks (fun b=>b=gF) w w':=by
 have hu115:=Try.underlying115
 have hu38:=Try.underlying38
 obtain⟨x,y⟩:=s
 simp only at hs h1 h2
 subst hs
 have HF:=Ya hF
 have hg:=hF.lt
 clear hF
 cases y
 ·have hb:=h1 rfl
  have hwr:IntKind.i64.wrap (F.getD i 0+k)=F.getD i 0+k:=IntWalk.i64_in _ (by omega)
  clear h1 h2
  obtain⟨y0,hy0⟩: ∃ y,y=F.getD i 0:=⟨_,rfl⟩
  rw[← hy0] at hwr hb
  have HY:=Ya hy0
  clear hy0
  go_enter Try.func154,Try.ntmps154
  go_upto_region 1 with (first|((with_reducible refine gate_dst (N:=3) rfl ?_);refine Yz ?hg (N:=3) ?hd (cs:= #[.int .i64 n0, .bool Zb, .slice A2 l.length c2, .slice (some ⟨gF,0,none⟩) F.length cF]) (t:=115) ?hr ?_;(case hd=>rfl);(case hg=>rfl);(case hr=>first|(go_simp;done)|(go_simp;rfl));intro g3 hg3 w3 Zf hb;have B3:=Ya Zf;have HB3:=Ya hb;have G3:Aside0 (w.heap.size≤g3):=⟨Nat.le_of_eq hg3.symm⟩;clear hg3;have m0_:=Ya (HF.out.below hb);clear HF hb Zf;have HF:=m0_;clear m0_)|((with_reducible refine gate_dst (N:=4) rfl ?_);refine Yz ?hg (N:=4) ?hd (cs:= #[.int .i64 (i:Int), .bool false]) (t:=38) ?hr ?_;(case hd=>rfl);(case hg=>rfl);(case hr=>first|(go_simp;done)|(go_simp;rfl));intro g4 hg4 w4 Zf hb;have B4:=Ya Zf;have G4:Aside0 (w.heap.size≤g4):=⟨Nat.le_trans HB3.out.size (Nat.le_of_eq hg4.symm)⟩;clear hg4;have HB4:=Ya (Yk HB3.out hb);have m0_:=Ya (HF.out.below hb);have m1_:=Ya (Yn B3.out hb);clear HF B3 HB3 hb Zf;have HF:=m0_;have B3:=m1_;clear m0_ m1_;have a3:w4.cell? ⟨g3,3,none⟩=some (.slice (some ⟨gF,0,none⟩) F.length cF):=(Yc B3.out 3).trans rfl;have b0:w4.cell? ⟨g4,0,none⟩=some (.int .i64 (i:Int)):=(Yc B4.out 0).trans rfl;have b1:w4.cell? ⟨g4,1,none⟩=some (.bool false):=(Yc B4.out 1).trans rfl)|fail)
  have c0:=HF.out.cell hi
  have f0:=HF.out.free i
  rw[← HY.out] at c0
  go_wp2_with fail
  refine bodyPost_end (results_none rfl _ _ _) rfl ⟨rfl,?_,(Ks.of_below HB4.out (fun b=>b=gF)).set (g:=gF) (fun _=>rfl) i _⟩
  have e:goS F ⟨(i:Int),false⟩ k=F.set i (y0+k):=by unfold goS;simp[HY.out,Int.sub_eq_add_neg]
  rw[e]
  exact HF.out.put i _
 ·have hb:=h2 rfl
  have hwr:IntKind.i64.wrap (F.getD i 0+ -k)=F.getD i 0+ -k:=IntWalk.i64_in _ (by omega)
  have hwn:IntKind.i64.wrap (-k)= -k:=IntWalk.i64_in _ (by omega)
  clear h1 h2
  obtain⟨y0,hy0⟩: ∃ y,y=F.getD i 0:=⟨_,rfl⟩
  rw[← hy0] at hwr hb
  have HY:=Ya hy0
  clear hy0
  go_enter Try.func154,Try.ntmps154
  go_upto_region 1 with (first|((with_reducible refine gate_dst (N:=3) rfl ?_);refine Yz ?hg (N:=3) ?hd (cs:= #[.int .i64 n0, .bool Zb, .slice A2 l.length c2, .slice (some ⟨gF,0,none⟩) F.length cF]) (t:=115) ?hr ?_;(case hd=>rfl);(case hg=>rfl);(case hr=>first|(go_simp;done)|(go_simp;rfl));intro g3 hg3 w3 Zf hb;have B3:=Ya Zf;have HB3:=Ya hb;have G3:Aside0 (w.heap.size≤g3):=⟨Nat.le_of_eq hg3.symm⟩;clear hg3;have m0_:=Ya (HF.out.below hb);clear HF hb Zf;have HF:=m0_;clear m0_)|((with_reducible refine gate_dst (N:=4) rfl ?_);refine Yz ?hg (N:=4) ?hd (cs:= #[.int .i64 (i:Int), .bool true]) (t:=38) ?hr ?_;(case hd=>rfl);(case hg=>rfl);(case hr=>first|(go_simp;done)|(go_simp;rfl));intro g4 hg4 w4 Zf hb;have B4:=Ya Zf;have G4:Aside0 (w.heap.size≤g4):=⟨Nat.le_trans HB3.out.size (Nat.le_of_eq hg4.symm)⟩;clear hg4;have HB4:=Ya (Yk HB3.out hb);have m0_:=Ya (HF.out.below hb);have m1_:=Ya (Yn B3.out hb);clear HF B3 HB3 hb Zf;have HF:=m0_;have B3:=m1_;clear m0_ m1_;have a3:w4.cell? ⟨g3,3,none⟩=some (.slice (some ⟨gF,0,none⟩) F.length cF):=(Yc B3.out 3).trans rfl;have b0:w4.cell? ⟨g4,0,none⟩=some (.int .i64 (i:Int)):=(Yc B4.out 0).trans rfl;have b1:w4.cell? ⟨g4,1,none⟩=some (.bool true):=(Yc B4.out 1).trans rfl)|fail)
  have c0:=HF.out.cell hi
  have f0:=HF.out.free i
  rw[← HY.out] at c0
  go_wp2_with fail
  refine bodyPost_end (results_none rfl _ _ _) rfl ⟨rfl,?_,(Ks.of_below HB4.out (fun b=>b=gF)).set (g:=gF) (fun _=>rfl) i _⟩
  have e:goS F ⟨(i:Int),true⟩ k=F.set i (y0+ -k):=by unfold goS;simp[HY.out,Int.sub_eq_add_neg]
  rw[e]
  exact HF.out.put i _
def minF (l:List S74) (F:List Int):Int→List S38→Int
 |a,[]=>a
 |a,s::L=>minF l F (min a (stRoom l F s)) L
theorem minF_least (l:List S74) (F:List Int): ∀ (L:List S38) (a:Int),L≠[]→minF l F a L=min a (leastR l F L)
 |[],a,h=>absurd rfl h
 |[s],a,_=>rfl
 |s::t::L,a,_=>by
  show minF l F (min a (stRoom l F s)) (t::L)=_
  rw[minF_least l F (t::L) _ (by simp)]
  show _=min a (min (stRoom l F s) (leastR l F (t::L)))
  omega
theorem minF_cons (l:List S74) (F:List Int) (s:S38) (L:List S38):minF l F (stRoom l F s) L=leastR l F (s::L):=by
 cases L with
 |nil=>rfl
 |cons t L=>rw[minF_least l F (t::L) _ (by simp)];rfl
attribute [local go_sem] max2_int min2_int max_two min_two
set_option maxHeartbeats 2000000 in
set_option maxRecDepth 100000 in
theorem least_calls (n0:Nat) (Zb:Bool) (A2:Option Addr) (c2:Nat) (l:List S74) (A3:Option Addr) (c3:Nat) (F:List Int) (g cW:Nat) (W:List S38) (w:World)
  (hR:Right l F n0) (hW: ∀ s,s∈W→StepOf l s) (hne:0<W.length) (hl:W.length≤1000000) (hcW:W.length≤cW)
  (hc: ∀ (j:Nat) (e:S38),W[j]? =some e→w.cell? ⟨g,j * 2,none⟩=some (.int .i64 e.f0)∧w.cell? ⟨g,j * 2+1,none⟩=some (.bool e.f1))
  (hc2:l.length≤c2) (hc3:F.length≤c3) (h2:Kd.C k74 w A2 l.length l) (h3:Kd.C (Kd.int .i64) w A3 F.length F):
  Calls Try.prog 153 #[.agg #[.int .i64 (n0:Int), .bool Zb, .slice A2 l.length c2, .slice A3 F.length c3], .slice (some ⟨g,0,none⟩) W.length cW] w fun e w'=>e= .returned (.int .i64 (leastR l F W))∧Below w.heap.size w w':=by
 have hu115:=Try.underlying115
 have hu38:=Try.underlying38
 have HR:=Ya hR
 have HC:=Ya hc
 have HW:=Ya hW
 have HC2:=Ya hc2
 have HC3:=Ya hc3
 have H2:=Ya h2
 have H3:=Ya h3
 obtain⟨e0,he0⟩: ∃ e,W[0]? =some e:=⟨_,List.getElem?_eq_getElem hne⟩
 have hm0:=List.mem_of_getElem? he0
 have HFM:=Ya (room_f hR (hW e0 hm0) (n0:Int) Zb)
 have HE0:=Ya he0
 have p1:(0:Int)<(W.length:Int):=by omega
 have p2:(1:Int)≤(W.length:Int):=by omega
 clear hR hc hW hc2 hc3 h2 h3 he0 hm0
 go_enter Try.func153,Try.ntmps153
 go_upto_region 1 with (first|((with_reducible refine gate_dst (N:=2) rfl ?_);refine Yz ?hg (N:=2) ?hd (cs:= #[.int .i64 (n0:Int), .bool Zb, .slice A2 l.length c2, .slice A3 F.length c3]) (t:=115) ?hr ?_;(case hd=>rfl);(case hg=>rfl);(case hr=>first|(go_simp;done)|(go_simp;rfl));intro g2 hg2 w3 Zf hb;have B2:=Ya Zf;have HB:=Ya hb;clear hg2 hb Zf)|fail)
 have a0:w3.cell? ⟨g2,0,none⟩=some (.int .i64 n0):=(Yc B2.out 0).trans rfl;have a1:w3.cell? ⟨g2,1,none⟩=some (.bool Zb):=(Yc B2.out 1).trans rfl;have a2:w3.cell? ⟨g2,2,none⟩=some (.slice A2 l.length c2):=(Yc B2.out 2).trans rfl;have a3:w3.cell? ⟨g2,3,none⟩=some (.slice A3 F.length c3):=(Yc B2.out 3).trans rfl
 obtain⟨b0,b1⟩:=HC.out 0 e0 HE0.out
 replace b0:=pw_cell_below HB.out b0
 replace b1:=pw_cell_below HB.out b1
 have q0: ∀ p:BelowW w3,p.at_.cell? ⟨g2,0,none⟩=some (.int .i64 n0):=fun p=>p.cell a0
 have q1: ∀ p:BelowW w3,p.at_.cell? ⟨g2,1,none⟩=some (.bool Zb):=fun p=>p.cell a1
 have q2: ∀ p:BelowW w3,p.at_.cell? ⟨g2,2,none⟩=some (.slice A2 l.length c2):=fun p=>p.cell a2
 have q3: ∀ p:BelowW w3,p.at_.cell? ⟨g2,3,none⟩=some (.slice A3 F.length c3):=fun p=>p.cell a3
 have q4: ∀ p:BelowW w3,p.at_.cell? ⟨g,0,none⟩=some (.int .i64 e0.f0):=fun p=>p.cell (by simpa using b0)
 have q5: ∀ p:BelowW w3,p.at_.cell? ⟨g,1,none⟩=some (.bool e0.f1):=fun p=>p.cell (by simpa using b1)
 have HCA:Aside0 (∀ p:BelowW w3,Kd.C k74 p.at_ A2 l.length l):=⟨fun p=>Yt (Yt H2.out HB.out) p.below⟩
 have HCF:Aside0 (∀ p:BelowW w3,Kd.C (Kd.int .i64) p.at_ A3 F.length F):=⟨fun p=>Yt (Yt H3.out HB.out) p.below⟩
 clear a0 a1 a2 a3 b0 b1
 refine wp_region_quiet_below (by kernel_rfl) (by kernel_rfl) ?_;(repeat(quiet_step ((first|(go_at_call 104;exact calls_below_of (static_Flowing_Room.calls (n0:Int) Zb A2 c2 l A3 c3 F e0.f0 e0.f1 _ _ (HCA.out _) HC2.out (HCF.out _) HC3.out HFM.out))))));refine wpQuiet_nil ?_;intro wq hw';obtain⟨⟨wz,hbq⟩,hwq⟩:=hw';subst hwq
 have m0_:=Ya (Yk HB.out hbq)
 have m1_:=Ya (Yn B2.out hbq)
 clear HB B2 hbq q0 q1 q2 q3 q4 q5 HCA HCF
 have HB:=m0_
 have B2:=m1_
 clear m0_ m1_
 go_upto_region 2 with fail
 go_cut [14,15,16] (fun v14 v15 v16 wx=> ∃ oz cz:Nat,v14= .slice (some ⟨g,oz,none⟩) (W.length - 1) cz∧(1<W.length→oz=2)∧v15= .int .i64 ((W.length - 1:Nat):Int)∧v16= .int .i64 0∧wx=wq)
 case first=>
  by_cases hcap:cW=1
  ·have e9:W.length=1:=by omega
   go_wp2_with fail
   go_meet
   exact⟨0,0,by simp[e9],fun h=>by omega,by simp[e9],rfl,rfl⟩
  ·go_wp2_with fail
   go_meet
   exact⟨2,_,rfl,fun h=>rfl,rfl,rfl,rfl⟩
 case rest=>
  obtain⟨oz,cz,rfl,hoz,rfl,rfl,rfl⟩:=hcut
  go_wp2_with fail
  go_loopw [5,16] (fun v5 v16 w'=> ∃ (a:Int) (j:Nat),v5= .int .i64 a∧v16= .int .i64 (j:Int)∧j+1≤W.length∧Aside0 (minF l F a (W.drop (j+1))=leastR l F W)∧Aside0 (w'.heap[g2]? =some (.cells #[.int .i64 (n0:Int), .bool Zb, .slice A2 l.length c2, .slice A3 F.length c3] 115 (0,0)))∧Aside0 (Below w.heap.size w w')) (fun _ v16 _=>W.length - (intOf v16).toNat)
  case atStart=>exact⟨stRoom l F e0,0,rfl,rfl,by omega,⟨by
   have hd:W=e0::W.drop 1:=by
    obtain⟨h1,h2⟩:=List.getElem?_eq_some_iff.1 HE0.out
    have h_:=List.drop_eq_getElem_cons (i:=0) (l:=W) (by omega)
    rw[List.drop_zero,h2] at h_
    exact h_
   rw[Nat.zero_add,minF_cons, ← hd]⟩,B2,HB⟩
  case round=>
   clear B2 HB
   obtain⟨a,j,rfl,rfl,hj,HM,B2,HB⟩:=hrel
   by_cases hlt:j+1<W.length
   ·have e1:decide ((j:Int)<((W.length - 1:Nat):Int))=true:=Yv (by omega)
    obtain rfl:=hoz (by omega)
    obtain⟨e,he⟩: ∃ e,W[j+1]? =some e:=⟨_,List.getElem?_eq_getElem hlt⟩
    obtain⟨b0,b1⟩:=HC.out (j+1) e he
    have b0:wr.cell? ⟨g,2+j * 2,none⟩=some (.int .i64 e.f0):=by rw[show 2+j * 2=(j+1) * 2 by omega];exact pw_cell_below HB.out b0
    have b1:wr.cell? ⟨g,2+j * 2+1,none⟩=some (.bool e.f1):=by rw[show 2+j * 2=(j+1) * 2 by omega];exact pw_cell_below HB.out b1
    have HFM2:=Ya (room_f HR.out (HW.out e (List.mem_of_getElem? he)) (n0:Int) Zb)
    have hM2:minF l F (min a (stRoom l F e)) (W.drop (j+1+1))=leastR l F W:=by
     rw[← HM.out]
     obtain⟨h1,h2⟩:=List.getElem?_eq_some_iff.1 he
     rw[List.drop_eq_getElem_cons h1,h2]
     rfl
    obtain⟨rm,hrm⟩: ∃ r_,r_=stRoom l F e:=⟨_,rfl⟩
    rw[← hrm] at hM2
    rw[← hrm] at HFM2
    clear he hrm
    have q1:(0:Int)≤(j:Int):=by omega
    have q2:(j:Int)<((W.length - 1:Nat):Int):=by omega
    go_upto_region 5 with fail
    have HN:Aside0 ((wr.alloc (.cells #[.int .i64 e.f0, .bool e.f1] 38)).heap[wr.heap.size]? =some (.cells #[.int .i64 e.f0, .bool e.f1] 38 (0,0))):=⟨heap_alloc_new _ _⟩
    have m0_:=Ya (Ye HB.out (.cells #[.int .i64 e.f0, .bool e.f1] 38))
    have m1_:=Ya (Yn B2.out (Ye (Yo _ _) (.cells #[.int .i64 e.f0, .bool e.f1] 38)))
    clear HB B2 b0 b1
    have HB:=m0_
    have B2:=m1_
    clear m0_ m1_
    generalize wr.alloc (.cells #[.int .i64 e.f0, .bool e.f1] 38)=w5 at *
    generalize wr.heap.size=g7 at *
    have a0:w5.cell? ⟨g2,0,none⟩=some (.int .i64 n0):=(Yc B2.out 0).trans rfl;have a1:w5.cell? ⟨g2,1,none⟩=some (.bool Zb):=(Yc B2.out 1).trans rfl;have a2:w5.cell? ⟨g2,2,none⟩=some (.slice A2 l.length c2):=(Yc B2.out 2).trans rfl;have a3:w5.cell? ⟨g2,3,none⟩=some (.slice A3 F.length c3):=(Yc B2.out 3).trans rfl
    have b0:w5.cell? ⟨g7,0,none⟩=some (.int .i64 e.f0):=(Yc HN.out 0).trans rfl
    have b1:w5.cell? ⟨g7,1,none⟩=some (.bool e.f1):=(Yc HN.out 1).trans rfl
    have hmn:(if rm<a then rm else a)=min a rm:=by split<;>omega
    go_wp2_with (first|(go_at_call 104;refine(static_Flowing_Room.calls (n0:Int) Zb A2 c2 l A3 c3 F e.f0 e.f1 _ _ (Yt H2.out HB.out) HC2.out (Yt H3.out HB.out) HC3.out HFM2.out).mono ?_;rintro e_ w6 ⟨rfl,hb⟩;have m0_:=Ya (Yk HB.out hb);have m1_:=Ya (Yn B2.out hb);clear HB B2 a0 a1 a2 a3 b0 b1 hb;have HB:=m0_;have B2:=m1_;clear m0_ m1_)|fail)
    go_roundw
    case rel=>exact⟨min a rm,j+1,rfl,by go_num,by omega,⟨hM2⟩,B2,HB⟩
    case measure=>show W.length - ((j:Int)+1).toNat<W.length - (j:Int).toNat;omega
   ·have e1:decide ((j:Int)<((W.length - 1:Nat):Int))=false:=Yw (by omega)
    have hr:a=leastR l F W:=by
     rw[← HM.out,List.drop_of_length_le (by omega)]
     rfl
    have HRR:=Ya hr
    clear hr
    go_wp2_with fail
    go_ret
    exact⟨by rw[← HRR.out];rfl,HB.out⟩
end H
namespace Q
open P
open H (endsErr)
theorem ends_ev (n:Int) (b:Bool) (l:List S74) (s t:Int):Ev (fun k=>static_Ends.f k n b l s t) (endsErr n l s t):=by
 unfold static_Ends.f endsErr
 refine Ev.bind (check_ev n b l) ?_
 refine Ev.ite (fun h=> ?_) (fun h=> ?_)
 ·rw[Yx h]
  refine Ev.ite (fun g=> ?_) (fun g=> ?_)
  ·exact Ev.done (by unfold mn at g;rw[Yy (by omega)])
  ·unfold mn at g
   refine Ev.ite (fun g2=> ?_) (fun g2=> ?_)
   ·exact Ev.done (by unfold mx at g2;rw[Yy (by omega)])
   ·unfold mx at g2
    refine Ev.ite (fun g3=> ?_) (fun g3=> ?_)
    ·exact Ev.done (by rw[Yy (by omega)])
    ·exact Ev.done (by rw[Yx (by omega)])
 ·rw[Yy h]
  exact Ev.now _
end Q
namespace H
open P Q
theorem right_of {n:Int} {l:List S74} {F:List Int} (h:askErr n l F=0): ∃ n0:Nat,n=n0∧Right l F n0:=by
 obtain⟨hn,hf⟩:=askErr_ok h
 have h1:=hn.lo
 have h2:=hn.hi
 obtain⟨n0,rfl⟩: ∃ n0:Nat,n=n0:=⟨n.toNat,by omega⟩
 refine⟨n0,rfl,⟨by omega,by omega,hn.len,hf.len,fun i hi=> ?_,fun i hi=> ?_⟩⟩
 ·have ha:=hn.at_ (i:=(i:Int)) (by omega) (by omega)
  exact⟨⟨ha.f0,ha.h0⟩,⟨ha.f1,ha.h1⟩⟩
 ·have ha:=hn.at_ (i:=(i:Int)) (by omega) (by omega)
  have hb:=hf.at_ i (by rw[hf.len];exact hi)
  rw[rd_nat] at hb
  exact⟨ha.f3,ha.h3,hb.1,hb.2,ha.h2⟩
end H
namespace Q
open P
open H (endsErr Right right_of)
theorem ends_zero {n:Int} {l:List S74} {s t:Int} (h:endsErr n l s t=0): ∃ n0 s0 t0:Nat,n=n0∧s=s0∧t=t0∧s0<n0∧t0<n0∧s0≠t0∧NetOk n0 l∧Right l (List.replicate l.length 0) n0:=by
 have hb:NetOk n l∧0≤s∧s<n∧0≤t∧t<n∧s≠t:=by
  unfold endsErr at h
  by_cases hn:netErr n l=0
  ·rw[Yx hn] at h
   split at h
   ·rename_i he
    exact⟨netErr_ok hn,he⟩
   ·cases h
  ·rw[Yy hn] at h;exact absurd h hn
 obtain⟨hn,h1,h2,h3,h4,h5⟩:=hb
 have hz:FlowOk l (List.replicate l.length 0):=by
  refine⟨by simp,fun i hi=> ?_⟩
  rw[List.length_replicate] at hi
  have ha:=(hn.at_ (i:=(i:Int)) (by omega) (by omega)).f2
  rw[rd_nat,List.getD_eq_getElem?_getD,List.getElem?_replicate,Yx hi]
  exact⟨Int.le_refl _,ha⟩
 obtain⟨n0,rfl,hr⟩:=right_of (ask_of hn hz)
 exact⟨n0,s.toNat,t.toNat,rfl,by omega,by omega,by omega,by omega,by omega,hn,hr⟩
end Q
namespace H
open P
set_option maxHeartbeats 2000000 in
set_option maxRecDepth 100000 in
theorem steps_calls (n0:Nat) (Zb:Bool) (A2:Option Addr) (c2:Nat) (l:List S74) (A3:Option Addr) (c3:Nat) (F:List Int) (A4:Option Addr) (c4:Nat) (v:Nat) (w:World)
  (hv:v<n0) (hn50:n0≤50) {ad:Addr} (hA:A4=some ad) {Av:Option Addr} {LN cv:Nat} (hrw:w.cell? (ad.add v)=some (.slice Av LN cv)):
  Calls Try.prog 140 #[.agg #[.int .i64 (n0:Int), .bool Zb, .slice A2 l.length c2, .slice A3 F.length c3, .slice A4 n0 c4], .int .i64 (v:Int)] w fun e w'=>e= .returned (.slice Av LN cv)∧Below w.heap.size w w':=by
 have hu118:=Try.underlying118
 subst hA
 have HRW:=Ya hrw
 have px:(0:Int)≤(v:Int):=by omega
 have qx:(v:Int)<(n0:Int):=by omega
 clear hrw
 go_enter Try.func140,Try.ntmps140
 go_upto_region 1 with (first|((with_reducible refine gate_dst (N:=2) rfl ?_);refine Yz ?hg (N:=2) ?hd (cs:= #[.int .i64 (n0:Int), .bool Zb, .slice A2 l.length c2, .slice A3 F.length c3, .slice (some ad) n0 c4]) (t:=118) ?hr ?_;(case hd=>rfl);(case hg=>rfl);(case hr=>first|(go_simp;done)|(go_simp;rfl));intro g2 hg2 w3 Zf hb;have B2:=Ya Zf;have HB:=Ya hb;clear hg2 hb Zf)|fail)
 have a4:w3.cell? ⟨g2,4,none⟩=some (.slice (some ad) n0 c4):=(Yc B2.out 4).trans rfl
 have hr3:=pw_cell_below HB.out HRW.out
 go_wp2_with fail
 go_ret
 exact⟨rfl,HB.out⟩
def nI (nx:List Nat):List Int:=nx.map fun j:Nat=>(j:Int)
theorem nI_len (nx:List Nat):(nI nx).length=nx.length:=by simp[nI]
theorem nI_get (nx:List Nat) (v:Nat) (h:v<nx.length):(nI nx).getD v 0=((nx.getD v 0:Nat):Int):=by
 rw[List.getD_eq_getElem?_getD,List.getD_eq_getElem?_getD]
 unfold nI
 rw[List.getElem?_map,List.getElem?_eq_getElem h]
 rfl
theorem nI_set (nx:List Nat) (v j:Nat):nI (nx.set v j)=(nI nx).set v (j:Int):=by unfold nI;rw[List.map_set]
structure Fi (n0:Nat) (Zb:Bool) (A2:Option Addr) (c2:Nat) (l:List S74) (gF cF:Nat) (A4:Option Addr) (c4 gx gd gn B:Nat) (F D:List Int) (nx:List Nat) (w:World):Prop where
 x:w.heap[gx]? =some (.cells #[.int .i64 (n0:Int), .bool Zb, .slice A2 l.length c2, .slice (some ⟨gF,0,none⟩) F.length cF, .slice A4 n0 c4, .slice (some ⟨gd,0,none⟩) n0 n0, .slice (some ⟨gn,0,none⟩) n0 n0] 184 (0,0))
 d:IsI w gd D
 nx:IsI w gn (nI nx)
 fl:IsI w gF F
 arcs:Kd.F k74 w (fun k=>k<B∧k≠gF∧k≠gd∧k≠gn∧k≠gx) A2 l.length l
 rows:Kd.F (Kd.slice 38 k38) w (fun k=>k<B∧k≠gF∧k≠gd∧k≠gn∧k≠gx) A4 n0 (rowsAt l n0 n0)
 size:B≤w.heap.size
 low:gx<B∧gd<B∧gn<B∧gF<B
 apart:gx≠gd∧gx≠gn∧gx≠gF∧gd≠gn∧gd≠gF∧gn≠gF
 ca:l.length≤c2
 cf:F.length≤cF
section
variable {n0:Nat} {Zb:Bool} {A2:Option Addr} {c2:Nat} {l:List S74} {gF cF:Nat} {A4:Option Addr} {c4 gx gd gn B:Nat} {F D:List Int} {nx:List Nat} {w w1:World}
theorem Fi.keep (h:Fi n0 Zb A2 c2 l gF cF A4 c4 gx gd gn B F D nx w) (hb:Below B w w1):Fi n0 Zb A2 c2 l gF cF A4 c4 gx gd gn B F D nx w1:=
 ⟨(hb.block _ h.low.1).trans h.x,h.d.same (hb.block _ h.low.2.1),h.nx.same (hb.block _ h.low.2.2.1),h.fl.same (hb.block _ h.low.2.2.2),Kd.F_step h.arcs (fun k hk _=>hb.block k hk.1),Kd.F_step h.rows (fun k hk _=>hb.block k hk.1),Nat.le_trans h.size hb.size,h.low,h.apart,h.ca,h.cf⟩
theorem Fi.below (h:Fi n0 Zb A2 c2 l gF cF A4 c4 gx gd gn B F D nx w) (hb:Below w.heap.size w w1):Fi n0 Zb A2 c2 l gF cF A4 c4 gx gd gn B F D nx w1:=h.keep ⟨hb.os,hb.tape,hb.output,hb.size,fun k hk=>hb.block k (Nat.lt_of_lt_of_le hk h.size)⟩
theorem Fi.put (h:Fi n0 Zb A2 c2 l gF cF A4 c4 gx gd gn B F D nx w) (v j:Nat):Fi n0 Zb A2 c2 l gF cF A4 c4 gx gd gn B F D (nx.set v j) (w.setCell ⟨gn,v,none⟩ (.int .i64 (j:Int))):=
 ⟨blk_far h.x (p:=⟨gn,v,none⟩) h.apart.2.1 _,h.d.far (p:=⟨gn,v,none⟩) h.apart.2.2.2.1 _,by rw[nI_set];exact h.nx.put v _,h.fl.far (p:=⟨gn,v,none⟩) (Ne.symm h.apart.2.2.2.2.2) _,
  Kd.F_far h.arcs (p:=⟨gn,v,none⟩) (fun k hk=>hk.2.2.2.1) _,Kd.F_far h.rows (p:=⟨gn,v,none⟩) (fun k hk=>hk.2.2.2.1) _,by simpa [World.setCell] using h.size,h.low,h.apart,h.ca,h.cf⟩
theorem Fi.ca_ (h:Fi n0 Zb A2 c2 l gF cF A4 c4 gx gd gn B F D nx w):Kd.C k74 w A2 l.length l:=Kd.F_now h.arcs
theorem Fi.row (h:Fi n0 Zb A2 c2 l gF cF A4 c4 gx gd gn B F D nx w) {v:Nat} (hv:v<n0): ∃ (ad:Addr) (Av:Option Addr) (cv:Nat),A4=some ad∧w.cell? (ad.add v)=some (.slice Av (stL l v l.length).length cv)∧(stL l v l.length).length≤cv∧Kd.F k38 w (fun k=>k<B∧k≠gF∧k≠gd∧k≠gn∧k≠gx) Av (stL l v l.length).length (stL l v l.length):=by
 obtain⟨ad,c,hA,_,hFK,hcc,_⟩:=Kd.F_get h.rows [] (v:Int) (by omega) (by omega)
 have hrow:(rowsAt l n0 n0).getD (v:Int).toNat []=stL l v l.length:=by rw[Int.toNat_natCast,List.getD_eq_getElem?_getD,rowsAt_get l n0 n0 _ hv,Yx hv];rfl
 rw[hrow] at hFK
 obtain⟨Av,cv,rfl,hl,hF⟩:=Kd.FK_slice_open hFK
 have hrw:=hcc 0 _ rfl
 have e0:(v:Int).toNat * (Kd.slice 38 k38).sz+0=v:=by rw[Int.toNat_natCast];show v * 1+0=v;omega
 rw[e0] at hrw
 exact⟨ad,Av,cv,hA,hrw,hl,hF⟩
theorem isI_C {g:Nat} {X:List Int} (h:IsI w g X) (hl:X.length≤9223372036854775807):Kd.C (Kd.int .i64) w (some ⟨g,0,none⟩) X.length X:=(Kd.R_reads' (h.R hl (base:=0) (Nat.zero_le _) (ok:=fun _=>True) trivial)).2.2
theorem ks_b {S:Nat→Prop} {w2:World} (h:Ks S w w1) (hb:Below w.heap.size w1 w2):Ks S w w2:=
 ⟨hb.os.trans h.os,hb.tape.trans h.tape,hb.output.trans h.output,Nat.le_trans h.size hb.size,fun k hk hs=>(hb.block k hk).trans (h.block k hk hs)⟩
theorem below_low {b:Nat} (h:b≤w.heap.size) (hb:Below w.heap.size w w1):Below b w w1:=⟨hb.os,hb.tape,hb.output,hb.size,fun k hk=>hb.block k (Nat.lt_of_lt_of_le hk h)⟩
end
end H
namespace H
open P
def nxAt (gn v:Nat) (w:World):Nat:=match w.cell? ⟨gn,v,none⟩ with|some u=>(intOf u).toNat|none=>0
theorem nxAt_eq {gn v:Nat} {nx:List Nat} {w:World} (h:IsI w gn (nI nx)) (hv:v<nx.length):nxAt gn v w=nx.getD v 0:=by
 unfold nxAt
 rw[h.cell (by rw[nI_len];exact hv),nI_get nx v hv]
 show (((nx.getD v 0:Nat):Int)).toNat=_
 exact Int.toNat_natCast _
theorem set_same (nx:List Nat) (v:Nat):nx.set v (nx.getD v 0)=nx:=by
 apply List.ext_getElem?
 intro i
 rw[List.getElem?_set]
 by_cases h:v=i
 ·subst h
  rw[Yx rfl,List.getD_eq_getElem?_getD]
  by_cases hl:v<nx.length
  ·rw[Yx hl,List.getElem?_eq_getElem hl];rfl
  ·rw[Yy hl,List.getElem?_eq_none (by omega)]
 ·rw[Yy h]
theorem getD_put (nx:List Nat) (v j:Nat) (h:v<nx.length):(nx.set v j).getD v 0=j:=by rw[List.getD_eq_getElem?_getD,List.getElem?_set_self h];rfl
theorem leads_len {α:Type} {g:Net_ α} (hfr: ∀ u e,e∈g.rows u→g.fr e=u): ∀ {way:List α} {s v:Nat},Leads g.to_ g.rows s way v→(∀ e,e∈way→g.adm (g.fr e) e=true)→g.D v=g.D s+way.length
 |[],s,v,h,_=>by cases h;simp
 |x::way,s,v,h,ha=>by
  have hx:=adm_lv (ha x List.mem_cons_self)
  rw[hfr _ _ h.1] at hx
  have h2:=leads_len hfr h.2 (fun e he=>ha e (List.mem_cons_of_mem _ he))
  rw[List.length_cons]
  omega
theorem downG_go {α:Type} {g:Net_ α} {s t k v:Nat} {way:List α} {nx:List Nat} {j:Nat} {e:α} (h:v≠t) (hs:scanG (g.adm v) ((g.rows v).drop (nx.getD v 0)) (nx.getD v 0)=some (j,e)):downG g s t (k+1) v way nx=downG g s t k (g.to_ e) (way ++ [e]) (nx.set v j):=by
 rw[downG,Yy h,hs]
theorem downG_out {α:Type} {g:Net_ α} {t k v:Nat} {way:List α} {nx:List Nat} (h:v≠t) (hs:scanG (g.adm v) ((g.rows v).drop (nx.getD v 0)) (nx.getD v 0)=none):downG g v t (k+1) v way nx=(none,nx.set v (g.rows v).length):=by
 rw[downG,Yy h,hs]
 show (if v=v then _ else _:Option (List α) × List Nat)=_
 rw[Yx rfl]
theorem downG_back {α:Type} {g:Net_ α} {s t k v:Nat} {way:List α} {nx:List Nat} {e:α} (h:v≠t) (hvs:v≠s) (hs:scanG (g.adm v) ((g.rows v).drop (nx.getD v 0)) (nx.getD v 0)=none) (hl:way.getLast? =some e):
  downG g s t (k+1) v way nx=downG g s t k (g.fr e) way.dropLast ((nx.set v (g.rows v).length).set (g.fr e) ((nx.set v (g.rows v).length).getD (g.fr e) 0+1)):=by
 rw[downG,Yy h,hs]
 show (if v=s then _ else _:Option (List α) × List Nat)=_
 rw[Yy hvs,hl]
attribute [local irreducible] wpQuiet
def Dn (n0:Nat) (Zb:Bool) (A2:Option Addr) (c2:Nat) (l:List S74) (gF cF:Nat) (A4:Option Addr) (c4 gx gd gn:Nat) (F D:List Int) (s t:Nat) (R:Option (List S38) × List Nat) (w:World) (v8 v9:Value) (w':World) (k:Nat):Prop:=
 ∃ (v:Nat) (way:List S38) (nx:List Nat),v9= .int .i64 (v:Int)∧DInv (netG l F D) s n0 v way nx∧downM (netG l F D) n0 v nx<k∧downG (netG l F D) s t k v way nx=R∧
  Kd.R k38 38 w' w.heap.size (fun b=>w.heap.size≤b) v8 way∧Fi n0 Zb A2 c2 l gF cF A4 c4 gx gd gn w.heap.size F D nx w'∧Ks (fun b=>b=gn) w w'
set_option maxHeartbeats 20000000 in
set_option maxRecDepth 100000 in
theorem down_calls (n0:Nat) (Zb:Bool) (A2:Option Addr) (c2:Nat) (l:List S74) (gF cF:Nat) (A4:Option Addr) (c4 gx gd gn:Nat) (F D:List Int) (s t:Nat) (nx0:List Nat) (w:World)
  (hR:Right l F n0) (hDl:D.length=n0) (hDb: ∀ v,v<n0→ -1≤D.getD v 0∧D.getD v 0≤50) (hg:(netG l F D).Fine s n0) (hnx:NxOk l n0 nx0) (hs:s<n0) (ht:t<n0) (h:Fi n0 Zb A2 c2 l gF cF A4 c4 gx gd gn w.heap.size F D nx0 w):
  Calls Try.prog 174 #[.pointer (some ⟨gx,0,none⟩), .int .i64 (s:Int), .int .i64 (t:Int)] w fun e w'=> ∃ v:Value,e= .returned (.tuple #[v, .bool (downG (netG l F D) s t 2000000 s [] nx0).1.isSome])∧
   (∀ L,(downG (netG l F D) s t 2000000 s [] nx0).1=some L→Kd.R k38 38 w' w.heap.size (fun _=>True) v L)∧Fi n0 Zb A2 c2 l gF cF A4 c4 gx gd gn w.heap.size F D (downG (netG l F D) s t 2000000 s [] nx0).2 w'∧Ks (fun b=>b=gn) w w':=by
 have hu118:=Try.underlying118
 have hu184:=Try.underlying184
 have hu115:=Try.underlying115
 have hu38:=Try.underlying38
 obtain⟨R,hRR⟩: ∃ R,R=downG (netG l F D) s t 2000000 s [] nx0:=⟨_,rfl⟩
 rw[← hRR]
 have HR:=Ya hR
 have HRR:=Ya hRR
 have HDB:=Ya hDb
 have HG:=Ya hg
 have HNX:=Ya hnx
 have HF:=Ya h
 have hn50:=hR.fifty
 have harc:=hR.arcs
 have har:l.length≤200:=harc
 clear hR hRR hDb hg hnx h harc
 go_enter Try.func174,Try.ntmps174
 go_upto_region 2 with fail
 go_step3
 go_wp2_with fail
 go_step3
 go_wp2_with fail
 have m0_:=Ya (HF.out.below (Ye (Yo _ _) (.cells #[] 38)))
 have HO:Aside0 (Kd.R k38 38 (w.alloc (.cells #[] 38)) w.heap.size (fun b=>w.heap.size≤b) (.slice (some ⟨w.heap.size,0,none⟩) 0 0) []):=⟨IsS.R (B:=[]) (heap_alloc_new w _) (by simp) (Nat.le_refl _) (Nat.le_refl _)⟩
 have HK:Aside0 (Ks (fun b=>b=gn) w (w.alloc (.cells #[] 38))):=⟨Ks.of_below (Ye (Yo _ _) _) _⟩
 clear HF
 have HF:=m0_
 clear m0_
 generalize w.alloc (.cells #[] 38)=w1 at *
 generalize Value.slice (some ⟨w.heap.size,0,none⟩) 0 0=v0 at *
 go_loopw [8,9] (fun v8 v9 w'=> ∃ k,Dn n0 Zb A2 c2 l gF cF A4 c4 gx gd gn F D s t R w v8 v9 w' k) (fun v8 v9 w'=>least (fun k=>Dn n0 Zb A2 c2 l gF cF A4 c4 gx gd gn F D s t R w v8 v9 w' k))
 case atStart=>exact⟨2000000,s,[],nx0,rfl,dinv_start hs HNX.out,downM_lt har hn50 _,HRR.out.symm,HO.out,HF.out,HK.out⟩
 case round=>
  clear HO HK HF
  have hmin:=least_spec hrel
  obtain⟨kk,hkk⟩: ∃ k_,k_=least (fun k=>Dn n0 Zb A2 c2 l gF cF A4 c4 gx gd gn F D s t R w u8 u9 wr k):=⟨_,rfl⟩
  rw[← hkk] at hmin
  have HLE:=Ya hkk
  clear hrel hkk
  obtain⟨v,way,nx,rfl,hdi,hdm,hdg,hO,hF,hK⟩:=hmin
  obtain⟨k,rfl⟩: ∃ k,kk=k+1:=⟨kk - 1,by omega⟩
  have HDI:=Ya hdi
  have HDM:=Ya hdm
  have HDG:=Ya hdg
  have HO:=Ya hO
  have HF:=Ya hF
  have HK:=Ya hK
  have hvn:=hdi.vn
  clear hdi hdm hdg hO hF hK
  by_cases hvt:v=t
  ·have e1:((v:Int) != (t:Int))=false:=by rw[hvt];simp
   have HR2:Aside0 (R=(some way,nx)):=⟨by rw[← HDG.out];show (if v=t then _ else _:Option (List S38) × List Nat)=_;rw[Yx hvt]⟩
   clear hvt
   go_wp2_with fail
   rw[Exit.noGoto_ret]
   go_ret2
   rw[HR2.out]
   exact⟨_,rfl,fun L hL=>by cases hL;exact Kd.R_mono HO.out (fun _ _=>trivial),HF.out,HK.out⟩
  ·have e1:((v:Int) != (t:Int))=true:=by rw[bne_iff_ne];omega
   obtain⟨ad,Av,cv,hA,hrw,hlc,hrF⟩:=HF.out.row hvn
   obtain⟨LN,hLN⟩: ∃ n_,n_=(stL l v l.length).length:=⟨_,rfl⟩
   have hlen4:LN≤400:=by have:=stL_len l v l.length;omega
   rw[← hLN] at hrw hlc hrF
   have HLN:=Ya hLN
   have HRW:=Ya hrw
   have HLC:=Ya hlc
   have HRF:=Ya hrF
   have HAA:=Ya hA
   clear hA hrw hlc hrF hLN
   have x0:wr.cell? ⟨gx,0,none⟩=some (.int .i64 (n0:Int)):=(Yc HF.out.x 0).trans rfl;have x1:wr.cell? ⟨gx,1,none⟩=some (.bool Zb):=(Yc HF.out.x 1).trans rfl;have x2:wr.cell? ⟨gx,2,none⟩=some (.slice A2 l.length c2):=(Yc HF.out.x 2).trans rfl;have x3:wr.cell? ⟨gx,3,none⟩=some (.slice (some ⟨gF,0,none⟩) F.length cF):=(Yc HF.out.x 3).trans rfl;have x4:wr.cell? ⟨gx,4,none⟩=some (.slice A4 n0 c4):=(Yc HF.out.x 4).trans rfl;have x5:wr.cell? ⟨gx,5,none⟩=some (.slice (some ⟨gd,0,none⟩) n0 n0):=(Yc HF.out.x 5).trans rfl;have x6:wr.cell? ⟨gx,6,none⟩=some (.slice (some ⟨gn,0,none⟩) n0 n0):=(Yc HF.out.x 6).trans rfl
   go_wp2_with (first|(go_at_call 140;refine(steps_calls n0 Zb A2 c2 l (some ⟨gF,0,none⟩) cF F A4 c4 v _ hvn hn50 HAA.out HRW.out).mono ?_;rintro e_ w5 ⟨rfl,hb⟩;have m0_:=Ya (HF.out.below hb);have m1_:=Ya (HK.out.below hb);have m2_:=Ya (Ys HO.out hb);have m3_:=Ya (Kd.F_below HRF.out hb);clear HF HK HO HRF HRW x0 x1 x2 x3 x4 x5 x6 hb;have HF:=m0_;have HK:=m1_;have HO:=m2_;have HRF:=m3_;clear m0_ m1_ m2_ m3_)|fail)
   have hnl:nx.length=n0:=HDI.out.len
   have hle0:nx.getD v 0≤LN:=by rw[HLN.out];exact HDI.out.le v hvn
   obtain⟨SC,hSC⟩: ∃ S,S=scanG ((netG l F D).adm v) ((stL l v l.length).drop (nx.getD v 0)) (nx.getD v 0):=⟨_,rfl⟩
   have HSC:=Ya hSC
   clear hSC
   have HK5:Aside0 (Ks (fun b=>b=gn) w5 w5):=⟨Ks.refl _ _⟩
   have hsz5:=HF.out.size
   go_loopw [8,9] (fun v8 v9 w'=>v8=u8∧v9= .int .i64 (v:Int)∧ ∃ j:Nat,j≤LN∧Aside0 (nx.getD v 0≤j)∧Aside0 (SC=scanG ((netG l F D).adm v) ((stL l v l.length).drop j) j)∧Aside0 (Fi n0 Zb A2 c2 l gF cF A4 c4 gx gd gn w.heap.size F D (nx.set v j) w')∧Aside0 (Ks (fun b=>b=gn) w w')∧Aside0 (Ks (fun b=>b=gn) w5 w')) (fun _ _ w'=>LN - nxAt gn v w')
   case atStart=>exact⟨rfl,rfl,nx.getD v 0,hle0,⟨Nat.le_refl _⟩,HSC,⟨by rw[set_same];exact HF.out⟩,HK,HK5⟩
   case round=>
    clear HF HK HK5
    obtain⟨rfl,rfl,j,hj,HJ0,HSJ,HF,HK,HK5⟩:=hrel
    have hcn:=HF.out.nx.cell (j:=v) (by rw[nI_len,List.length_set,hnl];exact hvn)
    rw[nI_get _ v (by rw[List.length_set,hnl];exact hvn),getD_put nx v j (by rw[hnl];exact hvn)] at hcn
    have HNA:Aside0 (nxAt gn v wr=j):=⟨by rw[nxAt_eq HF.out.nx (by rw[List.length_set,hnl];exact hvn),getD_put nx v j (by rw[hnl];exact hvn)]⟩
    have pv:(0:Int)≤(v:Int):=by omega
    have qv:(v:Int)<(n0:Int):=by omega
    have x0:wr.cell? ⟨gx,0,none⟩=some (.int .i64 (n0:Int)):=(Yc HF.out.x 0).trans rfl;have x1:wr.cell? ⟨gx,1,none⟩=some (.bool Zb):=(Yc HF.out.x 1).trans rfl;have x2:wr.cell? ⟨gx,2,none⟩=some (.slice A2 l.length c2):=(Yc HF.out.x 2).trans rfl;have x3:wr.cell? ⟨gx,3,none⟩=some (.slice (some ⟨gF,0,none⟩) F.length cF):=(Yc HF.out.x 3).trans rfl;have x4:wr.cell? ⟨gx,4,none⟩=some (.slice A4 n0 c4):=(Yc HF.out.x 4).trans rfl;have x5:wr.cell? ⟨gx,5,none⟩=some (.slice (some ⟨gd,0,none⟩) n0 n0):=(Yc HF.out.x 5).trans rfl;have x6:wr.cell? ⟨gx,6,none⟩=some (.slice (some ⟨gn,0,none⟩) n0 n0):=(Yc HF.out.x 6).trans rfl
    by_cases hlt:j<LN
    ·have e2:decide ((j:Int)<(LN:Int))=true:=Yv (by omega)
     have hrC:=Kd.F_now (Kd.F_step HRF.out (fun b hb hbl=>HK5.out.block b hbl hb.2.2.2.1))
     rw[HLN.out] at hrC
     have pj:(0:Int)≤(j:Int):=by omega
     have qj:(j:Int)<(LN:Int):=by omega
     obtain⟨adj,eadj,hs0,hs1⟩:=at_T38 hrC (j:Int) pj (by rw[← HLN.out];exact qj)
     subst eadj
     simp only[Int.toNat_natCast] at hs0 hs1
     obtain⟨e,hee⟩: ∃ e_,e_=rd_T38 (stL l v l.length) (j:Int):=⟨_,rfl⟩
     rw[← hee] at hs0 hs1
     have hej:(stL l v l.length)[j]? =some e:=by
      rw[hee]
      unfold rd_T38
      rw[Int.toNat_natCast,List.getD_eq_getElem?_getD,List.getElem?_eq_getElem (by rw[← HLN.out];exact hlt)]
      rfl
     have HEJ:=Ya hej
     clear hee hej hrC
     go_upto_region 8 with fail
     have HN:Aside0 ((wr.alloc (.cells #[.int .i64 e.f0, .bool e.f1] 38)).heap[wr.heap.size]? =some (.cells #[.int .i64 e.f0, .bool e.f1] 38 (0,0))):=⟨heap_alloc_new _ _⟩
     have m0_:=Ya (HF.out.below (Ye (Yo _ _) (.cells #[.int .i64 e.f0, .bool e.f1] 38)))
     have m1_:=Ya (HK.out.below (Ye (Yo _ _) (.cells #[.int .i64 e.f0, .bool e.f1] 38)))
     have m2_:=Ya (HK5.out.below (Ye (Yo _ _) (.cells #[.int .i64 e.f0, .bool e.f1] 38)))
     have HGB:Aside0 (w.heap.size≤wr.heap.size):=⟨HF.out.size⟩
     clear HF HK HK5 x0 x1 x2 x3 x4 x5 x6 hcn hs0 hs1
     have HF:=m0_
     have HK:=m1_
     have HK5:=m2_
     clear m0_ m1_ m2_
     generalize wr.alloc (.cells #[.int .i64 e.f0, .bool e.f1] 38)=w7 at *
     generalize wr.heap.size=g11 at *
     have hso:StepOf l e:=stL_of (List.mem_of_getElem? HEJ.out)
     obtain⟨u,hu⟩: ∃ u_:Nat,stTo l e=(u_:Int):=⟨(stTo l e).toNat,by have:=stTo_in HR.out hso;omega⟩
     have hun:u<n0:=by have:=stTo_in HR.out hso;omega
     have hup:toP l e=u:=by unfold toP;rw[hu,Int.toNat_natCast]
     have hto:=to_f HR.out hso (n0:Int) Zb
     rw[hu] at hto
     have HTO:=Ya hto
     have HUP:=Ya hup
     have HSO:=Ya hso
     clear hu hup hto hso
     have q0: ∀ p:BelowW w7,p.at_.cell? ⟨gx,0,none⟩=some (.int .i64 (n0:Int)):=fun p=>p.cell ((Yc HF.out.x 0).trans rfl)
     have q1: ∀ p:BelowW w7,p.at_.cell? ⟨gx,1,none⟩=some (.bool Zb):=fun p=>p.cell ((Yc HF.out.x 1).trans rfl)
     have q2: ∀ p:BelowW w7,p.at_.cell? ⟨gx,2,none⟩=some (.slice A2 l.length c2):=fun p=>p.cell ((Yc HF.out.x 2).trans rfl)
     have q3: ∀ p:BelowW w7,p.at_.cell? ⟨gx,3,none⟩=some (.slice (some ⟨gF,0,none⟩) F.length cF):=fun p=>p.cell ((Yc HF.out.x 3).trans rfl)
     have q4: ∀ p:BelowW w7,p.at_.cell? ⟨g11,0,none⟩=some (.int .i64 e.f0):=fun p=>p.cell ((Yc HN.out 0).trans rfl)
     have q5: ∀ p:BelowW w7,p.at_.cell? ⟨g11,1,none⟩=some (.bool e.f1):=fun p=>p.cell ((Yc HN.out 1).trans rfl)
     have HCA:Aside0 (∀ p:BelowW w7,Kd.C k74 p.at_ A2 l.length l):=⟨fun p=>Yt HF.out.ca_ p.below⟩
     have HCF:Aside0 (∀ p:BelowW w7,Kd.C (Kd.int .i64) p.at_ (some ⟨gF,0,none⟩) F.length F):=⟨fun p=>Yt (isI_C HF.out.fl (by have:=HR.out.len;omega)) p.below⟩
     have HC2:=Ya HF.out.ca
     have HC3:=Ya HF.out.cf
     refine wp_region_quiet_below (by kernel_rfl) (by kernel_rfl) ?_;(repeat(quiet_step ((first|(go_at_call 105;exact calls_below_of (static_Flowing_To.calls (n0:Int) Zb A2 c2 l (some ⟨gF,0,none⟩) cF F e.f0 e.f1 _ _ (HCA.out _) HC2.out (HCF.out _) HC3.out HTO.out))))));refine wpQuiet_nil ?_;intro wq hw';obtain⟨⟨wz,hbq⟩,hwq⟩:=hw';subst hwq
     have m0_:=Ya (HF.out.below hbq)
     have m1_:=Ya (HK.out.below hbq)
     have m2_:=Ya (HK5.out.below hbq)
     have m3_:=Ya (Yn HN.out hbq)
     clear HF HK HK5 HN HCA HCF q0 q1 q2 q3 q4 q5 hbq
     have HF:=m0_
     have HK:=m1_
     have HK5:=m2_
     have HN:=m3_
     clear m0_ m1_ m2_ m3_
     obtain⟨rm,hrm⟩: ∃ d_,d_=stRoom l F e:=⟨_,rfl⟩
     have HRM:=Ya (room_f HR.out HSO.out (n0:Int) Zb)
     rw[← hrm] at HRM
     have hrm0:0≤rm:=by rw[hrm];exact(stRoom_in HR.out HSO.out).1
     have HRMV:=Ya hrm
     clear hrm
     obtain⟨du,hdu⟩: ∃ d_,d_=D.getD u 0:=⟨_,rfl⟩
     obtain⟨dv,hdv⟩: ∃ d_,d_=D.getD v 0:=⟨_,rfl⟩
     have hbv:=HDB.out v hvn
     rw[← hdv] at hbv
     obtain⟨d1,hd1⟩: ∃ d_,d_=dv+1:=⟨_,rfl⟩
     have hwr:IntKind.i64.wrap (dv+1)=d1:=by rw[hd1];exact IntWalk.i64_in _ (by omega)
     have HD1:=Ya hd1
     clear hd1 hbv
     have pu:(0:Int)≤(u:Int):=by omega
     have qu:(u:Int)<(n0:Int):=by omega
     have q0: ∀ p:BelowW wq,p.at_.cell? ⟨gx,0,none⟩=some (.int .i64 (n0:Int)):=fun p=>p.cell ((Yc HF.out.x 0).trans rfl)
     have q1: ∀ p:BelowW wq,p.at_.cell? ⟨gx,1,none⟩=some (.bool Zb):=fun p=>p.cell ((Yc HF.out.x 1).trans rfl)
     have q2: ∀ p:BelowW wq,p.at_.cell? ⟨gx,2,none⟩=some (.slice A2 l.length c2):=fun p=>p.cell ((Yc HF.out.x 2).trans rfl)
     have q3: ∀ p:BelowW wq,p.at_.cell? ⟨gx,3,none⟩=some (.slice (some ⟨gF,0,none⟩) F.length cF):=fun p=>p.cell ((Yc HF.out.x 3).trans rfl)
     have q4: ∀ p:BelowW wq,p.at_.cell? ⟨g11,0,none⟩=some (.int .i64 e.f0):=fun p=>p.cell ((Yc HN.out 0).trans rfl)
     have q5: ∀ p:BelowW wq,p.at_.cell? ⟨g11,1,none⟩=some (.bool e.f1):=fun p=>p.cell ((Yc HN.out 1).trans rfl)
     have q6: ∀ p:BelowW wq,p.at_.cell? ⟨gx,5,none⟩=some (.slice (some ⟨gd,0,none⟩) n0 n0):=fun p=>p.cell ((Yc HF.out.x 5).trans rfl)
     have q7: ∀ p:BelowW wq,p.at_.cell? ⟨gd,u,none⟩=some (.int .i64 du):=fun p=>by rw[hdu];exact p.cell (HF.out.d.cell (by rw[hDl];exact hun))
     have q8: ∀ p:BelowW wq,p.at_.cell? ⟨gd,v,none⟩=some (.int .i64 dv):=fun p=>by rw[hdv];exact p.cell (HF.out.d.cell (by rw[hDl];exact hvn))
     have HCA:Aside0 (∀ p:BelowW wq,Kd.C k74 p.at_ A2 l.length l):=⟨fun p=>Yt HF.out.ca_ p.below⟩
     have HCF:Aside0 (∀ p:BelowW wq,Kd.C (Kd.int .i64) p.at_ (some ⟨gF,0,none⟩) F.length F):=⟨fun p=>Yt (isI_C HF.out.fl (by have:=HR.out.len;omega)) p.below⟩
     have HDU:=Ya hdu
     have HDV:=Ya hdv
     clear hdu hdv
     have hadm:(netG l F D).adm v e=(decide (du=d1) && decide (0<rm)):=by rw[HD1.out,HDU.out,HDV.out,HRMV.out, ← HUP.out];rfl
     have HADM:=Ya hadm
     clear hadm
     by_cases h1:du=d1
     ·have e3:(du == d1)=true:=beq_iff_eq.2 h1
      by_cases h2:0<rm
      ·have e4:decide (0<rm)=true:=Yv h2
       go_upto_region 9 with fail
       refine wp_region_quiet_below (by kernel_rfl) (by kernel_rfl) ?_;(repeat(quiet_step ((first|(go_at_call 104;exact calls_below_of (static_Flowing_Room.calls (n0:Int) Zb A2 c2 l (some ⟨gF,0,none⟩) cF F e.f0 e.f1 rm _ (HCA.out _) HC2.out (HCF.out _) HC3.out HRM.out))))));refine wpQuiet_nil ?_;intro wq hw';obtain⟨⟨wz,hbq⟩,hwq⟩:=hw';subst hwq
       have m0_:=Ya (HF.out.below hbq);have m1_:=Ya (HK.out.below hbq);have m2_:=Ya (HK5.out.below hbq);have m3_:=Ya (Yn HN.out hbq);clear HF HK HK5 HN HCA HCF q0 q1 q2 q3 q4 q5 q6 q7 q8 hbq;have HF:=m0_;have HK:=m1_;have HK5:=m2_;have HN:=m3_;clear m0_ m1_ m2_ m3_
       have HSC2:Aside0 (SC=some (j,e)):=⟨by
        rw[HSJ.out]
        obtain⟨g1,g2⟩:=List.getElem?_eq_some_iff.1 HEJ.out
        rw[List.drop_eq_getElem_cons g1,g2,scanG,HADM.out,Yv h1,Yv h2]
        rfl⟩
       have HO2:Aside0 (Kd.R k38 38 wq w.heap.size (fun b=>w.heap.size≤b) u8 way):=⟨HK5.out.R HO.out (fun b hb _ hbn=>by have:=HF.out.low;omega)⟩
       have b0:wq.cell? ⟨g11,0,none⟩=some (.int .i64 e.f0):=(Yc HN.out 0).trans rfl
       have b1:wq.cell? ⟨g11,1,none⟩=some (.bool e.f1):=(Yc HN.out 1).trans rfl
       have ha:(netG l F D).adm v e=true:=by rw[HADM.out,Yv h1,Yv h2];rfl
       have hwl:way.length≤50:=by
        have h_:=leads_len HG.out.hfr HDI.out.trail HDI.out.adm
        have h_2:=HG.out.hs
        have h_3:(netG l F D).D v=D.getD v 0:=rfl
        have h_4:=(HDB.out v hvn).2
        omega
       clear HO
       go_wp2_with (first|((with_reducible refine gate_builtin (b:= .append) (xs:= #[.tmp 87, .tmp 89]) rfl ?_);at_builtin;refine Kd.R_append k38 (w0:=wq) w.heap.size rfl (.tmp 87) (.tmp 89) 34 38 (.agg #[(.int .i64 0),(.bool false)]) 16 rfl Try.underlying34 info38 rfl (by decide) (by omega) u8 way e [.int .i64 e.f0, .bool e.f1] (fun b=>w.heap.size≤b) (fun _=>False) rfl rfl ?aP (fun _ hk=>hk.elim) ?aF ?aO ?aB ?aS ?aL ?_;(case aP=>exact k38_mkM _ _ _ e);(case aF=>exact(fun k hk=>Nat.le_trans HF.out.size hk));(case aO=>exact HO2.out);(case aB=>exact Yo _ _);(case aS=>exact HF.out.size);(case aL=>omega);intro v1 w9 ho hb hg hat;have m0_:=Ya ho;have m1_:=Ya (HF.out.keep hb);have m2_:=Ya (ks_b HK.out hb);clear HO2 HF HK HN HK5 ho hb hg hat b0 b1;have HO2:=m0_;have HF:=m1_;have HK:=m2_;clear m0_ m1_ m2_)|fail)
       have hD:Dn n0 Zb A2 c2 l gF cF A4 c4 gx gd gn F D s t R w v1 (.int .i64 (u:Int)) w9 k:=⟨u,way ++ [e],nx.set v j,rfl,by rw[← HUP.out];exact HDI.out.go HG.out HJ0.out HEJ.out ha,by have h_:=downM_go HG.out HDI.out HJ0.out HEJ.out ha;have h_2:=HDM.out;rw[← HUP.out];exact Nat.lt_of_lt_of_le h_ (Nat.le_of_lt_succ h_2),by rw[← HDG.out,downG_go hvt (HSC.out.symm.trans HSC2.out), ← HUP.out];rfl,HO2.out,HF.out,HK.out⟩
       go_roundw
       case rel=>exact⟨k,hD⟩
       case measure=>exact least_lt hD (by rw[← HLE.out];exact Nat.lt_succ_self k)
      ·have e4:decide (0<rm)=false:=Yw h2
       have H2:=Ya h2
       clear h2
       go_upto_region 9 with fail
       refine wp_region_quiet_below (by kernel_rfl) (by kernel_rfl) ?_;(repeat(quiet_step ((first|(go_at_call 104;exact calls_below_of (static_Flowing_Room.calls (n0:Int) Zb A2 c2 l (some ⟨gF,0,none⟩) cF F e.f0 e.f1 rm _ (HCA.out _) HC2.out (HCF.out _) HC3.out HRM.out))))));refine wpQuiet_nil ?_;intro wq hw';obtain⟨⟨wz,hbq⟩,hwq⟩:=hw';subst hwq
       have m0_:=Ya (HF.out.below hbq);have m1_:=Ya (HK.out.below hbq);have m2_:=Ya (HK5.out.below hbq);have m3_:=Ya (Yn HN.out hbq);clear HF HK HK5 HN HCA HCF q0 q1 q2 q3 q4 q5 q6 q7 q8 hbq;have HF:=m0_;have HK:=m1_;have HK5:=m2_;have HN:=m3_;clear m0_ m1_ m2_ m3_
       have HSC2:Aside0 (SC=scanG ((netG l F D).adm v) ((stL l v l.length).drop (j+1)) (j+1)):=⟨by
        rw[HSJ.out]
        obtain⟨g1,g2⟩:=List.getElem?_eq_some_iff.1 HEJ.out
        rw[List.drop_eq_getElem_cons g1,g2,scanG,HADM.out,Yw H2.out,Bool.and_false]
        rfl⟩
       have x0:wq.cell? ⟨gx,0,none⟩=some (.int .i64 (n0:Int)):=(Yc HF.out.x 0).trans rfl;have x1:wq.cell? ⟨gx,1,none⟩=some (.bool Zb):=(Yc HF.out.x 1).trans rfl;have x2:wq.cell? ⟨gx,2,none⟩=some (.slice A2 l.length c2):=(Yc HF.out.x 2).trans rfl;have x3:wq.cell? ⟨gx,3,none⟩=some (.slice (some ⟨gF,0,none⟩) F.length cF):=(Yc HF.out.x 3).trans rfl;have x4:wq.cell? ⟨gx,4,none⟩=some (.slice A4 n0 c4):=(Yc HF.out.x 4).trans rfl;have x5:wq.cell? ⟨gx,5,none⟩=some (.slice (some ⟨gd,0,none⟩) n0 n0):=(Yc HF.out.x 5).trans rfl;have x6:wq.cell? ⟨gx,6,none⟩=some (.slice (some ⟨gn,0,none⟩) n0 n0):=(Yc HF.out.x 6).trans rfl
       have hcn:=HF.out.nx.cell (j:=v) (by rw[nI_len,List.length_set,hnl];exact hvn)
       rw[nI_get _ v (by rw[List.length_set,hnl];exact hvn),getD_put nx v j (by rw[hnl];exact hvn)] at hcn
       have fcn:=HF.out.nx.free v
       have hwj:IntKind.i64.wrap ((j:Int)+1)=(j:Int)+1:=IntWalk.i64_in _ (by omega)
       go_wp2_with fail
       have hnew:=HF.out.put v (j+1)
       rw[List.set_set,show ((j+1:Nat):Int)=(j:Int)+1 from rfl] at hnew
       go_roundw
       case rel=>exact⟨rfl,rfl,j+1,by omega,⟨by have:=HJ0.out;omega⟩,HSC2,⟨hnew⟩,⟨HK.out.set (g:=gn) (fun _=>rfl) v _⟩,⟨HK5.out.set (g:=gn) (fun _=>rfl) v _⟩⟩
       case measure=>rw[HNA.out];have h_:=nxAt_eq hnew.nx (v:=v) (by rw[List.length_set,hnl];exact hvn);rw[getD_put nx v (j+1) (by rw[hnl];exact hvn)] at h_;rw[h_];omega
     ·have e3:(du == d1)=false:=beq_eq_false_iff_ne.2 h1
      have H1:=Ya h1
      clear h1
      go_upto_region 9 with fail
      refine wp_region_quiet_below (by kernel_rfl) (by kernel_rfl) ?_;(repeat(quiet_step ((first|(go_at_call 104;exact calls_below_of (static_Flowing_Room.calls (n0:Int) Zb A2 c2 l (some ⟨gF,0,none⟩) cF F e.f0 e.f1 rm _ (HCA.out _) HC2.out (HCF.out _) HC3.out HRM.out))))));refine wpQuiet_nil ?_;intro wq hw';obtain⟨⟨wz,hbq⟩,hwq⟩:=hw';subst hwq
      have m0_:=Ya (HF.out.below hbq);have m1_:=Ya (HK.out.below hbq);have m2_:=Ya (HK5.out.below hbq);have m3_:=Ya (Yn HN.out hbq);clear HF HK HK5 HN HCA HCF q0 q1 q2 q3 q4 q5 q6 q7 q8 hbq;have HF:=m0_;have HK:=m1_;have HK5:=m2_;have HN:=m3_;clear m0_ m1_ m2_ m3_
      have HSC2:Aside0 (SC=scanG ((netG l F D).adm v) ((stL l v l.length).drop (j+1)) (j+1)):=⟨by
       rw[HSJ.out]
       obtain⟨g1,g2⟩:=List.getElem?_eq_some_iff.1 HEJ.out
       rw[List.drop_eq_getElem_cons g1,g2,scanG,HADM.out,Yw H1.out,Bool.false_and]
       rfl⟩
      have x0:wq.cell? ⟨gx,0,none⟩=some (.int .i64 (n0:Int)):=(Yc HF.out.x 0).trans rfl;have x1:wq.cell? ⟨gx,1,none⟩=some (.bool Zb):=(Yc HF.out.x 1).trans rfl;have x2:wq.cell? ⟨gx,2,none⟩=some (.slice A2 l.length c2):=(Yc HF.out.x 2).trans rfl;have x3:wq.cell? ⟨gx,3,none⟩=some (.slice (some ⟨gF,0,none⟩) F.length cF):=(Yc HF.out.x 3).trans rfl;have x4:wq.cell? ⟨gx,4,none⟩=some (.slice A4 n0 c4):=(Yc HF.out.x 4).trans rfl;have x5:wq.cell? ⟨gx,5,none⟩=some (.slice (some ⟨gd,0,none⟩) n0 n0):=(Yc HF.out.x 5).trans rfl;have x6:wq.cell? ⟨gx,6,none⟩=some (.slice (some ⟨gn,0,none⟩) n0 n0):=(Yc HF.out.x 6).trans rfl
      have hcn:=HF.out.nx.cell (j:=v) (by rw[nI_len,List.length_set,hnl];exact hvn)
      rw[nI_get _ v (by rw[List.length_set,hnl];exact hvn),getD_put nx v j (by rw[hnl];exact hvn)] at hcn
      have fcn:=HF.out.nx.free v
      have hwj:IntKind.i64.wrap ((j:Int)+1)=(j:Int)+1:=IntWalk.i64_in _ (by omega)
      go_wp2_with fail
      have hnew:=HF.out.put v (j+1)
      rw[List.set_set,show ((j+1:Nat):Int)=(j:Int)+1 from rfl] at hnew
      go_roundw
      case rel=>exact⟨rfl,rfl,j+1,by omega,⟨by have:=HJ0.out;omega⟩,HSC2,⟨hnew⟩,⟨HK.out.set (g:=gn) (fun _=>rfl) v _⟩,⟨HK5.out.set (g:=gn) (fun _=>rfl) v _⟩⟩
      case measure=>rw[HNA.out];have h_:=nxAt_eq hnew.nx (v:=v) (by rw[List.length_set,hnl];exact hvn);rw[getD_put nx v (j+1) (by rw[hnl];exact hvn)] at h_;rw[h_];omega
    ·have e2:decide ((j:Int)<(LN:Int))=false:=Yw (by omega)
     have hjl:j=LN:=by omega
     have HSN:Aside0 (SC=none):=⟨by rw[HSJ.out,List.drop_of_length_le (by rw[← HLN.out];omega)];rfl⟩
     by_cases hvs:v=s
     ·have e5:((v:Int) == (s:Int))=true:=by rw[hvs];simp
      have HR2:Aside0 (R=(none,nx.set v j)):=⟨by
       have h_:=HDG.out
       rw[← hvs,downG_out hvt (HSC.out.symm.trans HSN.out)] at h_
       rw[← h_,hjl,HLN.out]
       rfl⟩
      clear hvs
      go_wp2_with fail
      rw[Exit.noGoto_ret]
      go_ret2
      rw[HR2.out]
      exact⟨_,rfl,fun L hL=>(by cases hL),HF.out,HK.out⟩
     ·have e5:((v:Int) == (s:Int))=false:=beq_eq_false_iff_ne.2 (by omega)
      have HVS:=Ya hvs
      clear hvs
      have hwne:way≠[]:=by
       intro hw0
       have h_:=HDI.out.trail
       rw[hw0] at h_
       exact HVS.out h_.symm
      obtain⟨e,he⟩: ∃ e_,way.getLast? =some e_:=⟨_,List.getLast?_eq_some_getLast hwne⟩
      obtain⟨q1,q2,_,_,q5,q6⟩:=HDI.out.back HG.out he
      have hbk:=downM_back HG.out HDI.out he
      have hdb:=downG_back (k:=k) hvt HVS.out (HSC.out.symm.trans HSN.out) he
      have hat:=HDI.out.at_ e q6
      have hso:StepOf l e:=stL_of (List.mem_of_getElem? hat)
      have hatl:=(List.getElem?_eq_some_iff.1 hat).1
      have ej:((netG l F D).rows v).length=j:=by rw[hjl,HLN.out];rfl
      rw[ej] at q1 hbk hdb
      obtain⟨fr,hfr⟩: ∃ f_,f_=frP l e:=⟨_,rfl⟩
      have hfre:(netG l F D).fr e=fr:=hfr.symm
      rw[hfre] at q1 q2 q5 hbk hdb hatl
      obtain⟨y,hy⟩: ∃ y_,y_=(nx.set v j).getD fr 0:=⟨_,rfl⟩
      rw[← hy] at q1 hbk hdb
      have hyl:y≤400:=by
       have h_:=getD_setN nx v j fr (by rw[hnl];exact hvn)
       rw[Yy q2] at h_
       have h_2:=stL_len l fr l.length
       have h_3:((netG l F D).rows fr).length=(stL l fr l.length).length:=rfl
       omega
      have hff:=stFrom_in HR.out hso
      have hfm:=fromS_f HR.out hso (n0:Int) Zb
      have hfi:stFrom l e=(fr:Int):=by rw[hfr];unfold frP;omega
      rw[hfi] at hfm
      have HFM:=Ya hfm
      have HQ1:=Ya q1
      have HBK:=Ya hbk
      have HDB2:=Ya hdb
      have HY:=Ya hy
      have HE:=Ya he
      have HO2:Aside0 (Kd.R k38 38 wr w.heap.size (fun b=>w.heap.size≤b) u8 way):=⟨HK5.out.R HO.out (fun b hb _ hbn=>by have:=HF.out.low;omega)⟩
      have hwl:way.length≤50:=by
       have h_:=leads_len HG.out.hfr HDI.out.trail HDI.out.adm
       have h_2:=HG.out.hs
       have h_3:(netG l F D).D v=D.getD v 0:=rfl
       have h_4:=(HDB.out v hvn).2
       omega
      clear q1 hbk hdb hat hatl hso hff hfi hfm hfre hfr hy he q6 ej HO
      obtain⟨Aw,cw,ew⟩:=Kd.R_slice HO2.out
      subst ew
      have hCw:=(Kd.R_reads' HO2.out).2.2
      have hcw:=(Kd.R_reads' HO2.out).2.1
      obtain⟨m,hm⟩: ∃ m,way.length=m+1:=⟨way.length - 1,by have:=List.length_pos_iff.2 hwne;omega⟩
      have pm:(0:Int)≤(m:Int):=by omega
      have qm:(m:Int)<(way.length:Int):=by omega
      obtain⟨aw,eaw,hs0,hs1⟩:=at_T38 hCw (m:Int) pm qm
      subst eaw
      simp only[Int.toNat_natCast] at hs0 hs1
      have hee:rd_T38 way (m:Int)=e:=by
       have h_:=HE.out
       rw[List.getLast?_eq_getElem?,hm,Nat.add_sub_cancel] at h_
       unfold rd_T38
       rw[Int.toNat_natCast,List.getD_eq_getElem?_getD,h_]
       rfl
      rw[hee] at hs0 hs1
      clear hee hCw
      have hwm:IntKind.i64.wrap ((way.length:Int) - 1)=(m:Int):=by rw[hm];have h_:=IntWalk.i64_in ((m:Int)) (by omega);rw[← h_];congr 1;omega
      have hwm2:IntKind.i64.wrap ((way.length:Int)+ -1)=(m:Int):=by rw[hm];have h_:=IntWalk.i64_in ((m:Int)) (by omega);rw[← h_];congr 1;omega
      have HM:=Ya hm
      clear hm
      go_upto_region 15 with fail
      clear hcn x0 x1 x2 x3 x4 x5 x6
      have q0: ∀ p:BelowW wr,p.at_.cell? ⟨gx,0,none⟩=some (.int .i64 (n0:Int)):=fun p=>p.cell ((Yc HF.out.x 0).trans rfl)
      have q1: ∀ p:BelowW wr,p.at_.cell? ⟨gx,1,none⟩=some (.bool Zb):=fun p=>p.cell ((Yc HF.out.x 1).trans rfl)
      have q2_: ∀ p:BelowW wr,p.at_.cell? ⟨gx,2,none⟩=some (.slice A2 l.length c2):=fun p=>p.cell ((Yc HF.out.x 2).trans rfl)
      have q3: ∀ p:BelowW wr,p.at_.cell? ⟨gx,3,none⟩=some (.slice (some ⟨gF,0,none⟩) F.length cF):=fun p=>p.cell ((Yc HF.out.x 3).trans rfl)
      have q4: ∀ p:BelowW wr,p.at_.cell? (aw.add (m * 2))=some (.int .i64 e.f0):=fun p=>p.cell hs0
      have q6: ∀ p:BelowW wr,p.at_.cell? ⟨(aw.add (m * 2)).block,(aw.add (m * 2)).off+1,none⟩=some (.bool e.f1):=fun p=>p.cell hs1
      have HCA:Aside0 (∀ p:BelowW wr,Kd.C k74 p.at_ A2 l.length l):=⟨fun p=>Yt HF.out.ca_ p.below⟩
      have HCF:Aside0 (∀ p:BelowW wr,Kd.C (Kd.int .i64) p.at_ (some ⟨gF,0,none⟩) F.length F):=⟨fun p=>Yt (isI_C HF.out.fl (by have:=HR.out.len;omega)) p.below⟩
      have HC2:=Ya HF.out.ca
      have HC3:=Ya HF.out.cf
      clear hs0 hs1
      refine wp_region_quiet_below (by kernel_rfl) (by kernel_rfl) ?_;(repeat(quiet_step ((first|(go_at_call 106;exact calls_below_of (static_Flowing_From.calls (n0:Int) Zb A2 c2 l (some ⟨gF,0,none⟩) cF F e.f0 e.f1 (fr:Int) _ (HCA.out _) HC2.out (HCF.out _) HC3.out HFM.out))))));refine wpQuiet_nil ?_;intro wq hw';obtain⟨⟨wz,hbq⟩,hwq⟩:=hw';subst hwq
      have m0_:=Ya (HF.out.below hbq)
      have m1_:=Ya (HK.out.below hbq)
      have m2_:=Ya (Ys HO2.out hbq)
      clear HF HK HK5 HO2 HCA HCF q0 q1 q2_ q3 q4 q6 hbq
      have HF:=m0_
      have HK:=m1_
      have HO2:=m2_
      clear m0_ m1_ m2_
      have x0:wq.cell? ⟨gx,0,none⟩=some (.int .i64 (n0:Int)):=(Yc HF.out.x 0).trans rfl;have x1:wq.cell? ⟨gx,1,none⟩=some (.bool Zb):=(Yc HF.out.x 1).trans rfl;have x2:wq.cell? ⟨gx,2,none⟩=some (.slice A2 l.length c2):=(Yc HF.out.x 2).trans rfl;have x3:wq.cell? ⟨gx,3,none⟩=some (.slice (some ⟨gF,0,none⟩) F.length cF):=(Yc HF.out.x 3).trans rfl;have x4:wq.cell? ⟨gx,4,none⟩=some (.slice A4 n0 c4):=(Yc HF.out.x 4).trans rfl;have x5:wq.cell? ⟨gx,5,none⟩=some (.slice (some ⟨gd,0,none⟩) n0 n0):=(Yc HF.out.x 5).trans rfl;have x6:wq.cell? ⟨gx,6,none⟩=some (.slice (some ⟨gn,0,none⟩) n0 n0):=(Yc HF.out.x 6).trans rfl
      have hcn:=HF.out.nx.cell (j:=fr) (by rw[nI_len,List.length_set,hnl];exact q5)
      rw[nI_get _ fr (by rw[List.length_set,hnl];exact q5), ← HY.out] at hcn
      have fcn:=HF.out.nx.free fr
      have hwj:IntKind.i64.wrap ((y:Int)+1)=(y:Int)+1:=IntWalk.i64_in _ (by omega)
      have pf:(0:Int)≤(fr:Int):=by omega
      have qf:(fr:Int)<(n0:Int):=by omega
      go_wp2_with fail
      have hnew:=HF.out.put fr (y+1)
      rw[show ((y+1:Nat):Int)=(y:Int)+1 from rfl] at hnew
      have hrt:=Kd.R_take HO2.out (m:=m) (by have:=HM.out;omega)
      rw[show way.take m=way.dropLast by rw[List.dropLast_eq_take,HM.out,Nat.add_sub_cancel]] at hrt
      have hlow:=HF.out.low
      have hD:Dn n0 Zb A2 c2 l gF cF A4 c4 gx gd gn F D s t R w (.slice (some aw) m cw) (.int .i64 (fr:Int)) (wq.setCell ⟨gn,fr,none⟩ (.int .i64 ((y:Int)+1))) k:=⟨fr,way.dropLast,(nx.set v j).set fr (y+1),rfl,HQ1.out,by have h_:=HBK.out;have h_2:=HDM.out;omega,by rw[← HDB2.out];exact HDG.out,Kd.R_far hrt (p:=⟨gn,fr,none⟩) (fun b hb hbn=>by have hbn:b=gn:=hbn;omega) _,hnew,HK.out.set (g:=gn) (fun _=>rfl) fr _⟩
      go_roundw
      case rel=>exact⟨k,hD⟩
      case measure=>exact least_lt hD (by rw[← HLE.out];exact Nat.lt_succ_self k)
end H
namespace H
open P
structure Fo (n0:Nat) (Zb:Bool) (A2:Option Addr) (c2:Nat) (l:List S74) (gF cF:Nat) (A4:Option Addr) (c4 gx gn B:Nat) (vd:Value) (F:List Int) (nx:List Nat) (w:World):Prop where
 x:w.heap[gx]? =some (.cells #[.int .i64 (n0:Int), .bool Zb, .slice A2 l.length c2, .slice (some ⟨gF,0,none⟩) F.length cF, .slice A4 n0 c4,vd, .slice (some ⟨gn,0,none⟩) n0 n0] 184 (0,0))
 nx:IsI w gn (nI nx)
 fl:IsI w gF F
 arcs:Kd.F k74 w (fun k=>k<B∧k≠gF∧k≠gn∧k≠gx) A2 l.length l
 rows:Kd.F (Kd.slice 38 k38) w (fun k=>k<B∧k≠gF∧k≠gn∧k≠gx) A4 n0 (rowsAt l n0 n0)
 size:B≤w.heap.size
 low:gx<B∧gn<B∧gF<B
 apart:gx≠gn∧gx≠gF∧gn≠gF
 ca:l.length≤c2
 cf:F.length≤cF
section
variable {n0:Nat} {Zb:Bool} {A2:Option Addr} {c2:Nat} {l:List S74} {gF cF:Nat} {A4:Option Addr} {c4 gx gd gn B B':Nat} {vd vd':Value} {F D:List Int} {nx nx':List Nat} {w w1:World}
theorem Fo.keep (h:Fo n0 Zb A2 c2 l gF cF A4 c4 gx gn B vd F nx w) (hb:Below B w w1):Fo n0 Zb A2 c2 l gF cF A4 c4 gx gn B vd F nx w1:=
 ⟨(hb.block _ h.low.1).trans h.x,h.nx.same (hb.block _ h.low.2.1),h.fl.same (hb.block _ h.low.2.2),Kd.F_step h.arcs (fun k hk _=>hb.block k hk.1),Kd.F_step h.rows (fun k hk _=>hb.block k hk.1),Nat.le_trans h.size hb.size,h.low,h.apart,h.ca,h.cf⟩
theorem Fo.below (h:Fo n0 Zb A2 c2 l gF cF A4 c4 gx gn B vd F nx w) (hb:Below w.heap.size w w1):Fo n0 Zb A2 c2 l gF cF A4 c4 gx gn B vd F nx w1:=h.keep (below_low h.size hb)
theorem Fo.ca_ (h:Fo n0 Zb A2 c2 l gF cF A4 c4 gx gn B vd F nx w):Kd.C k74 w A2 l.length l:=Kd.F_now h.arcs
theorem Fo.cr_ (h:Fo n0 Zb A2 c2 l gF cF A4 c4 gx gn B vd F nx w):(Kd.slice 38 k38).C w A4 n0 (rowsAt l n0 n0):=Kd.F_now h.rows
theorem Fo.putD (h:Fo n0 Zb A2 c2 l gF cF A4 c4 gx gn B vd F nx w) (v:Value):Fo n0 Zb A2 c2 l gF cF A4 c4 gx gn B v F nx (w.setCell ⟨gx,5,none⟩ v):=
 ⟨(blk_set h.x 5 v).trans rfl,h.nx.far (p:=⟨gx,5,none⟩) (Ne.symm h.apart.1) _,h.fl.far (p:=⟨gx,5,none⟩) (Ne.symm h.apart.2.1) _,
  Kd.F_far h.arcs (p:=⟨gx,5,none⟩) (fun k hk=>hk.2.2.2) _,Kd.F_far h.rows (p:=⟨gx,5,none⟩) (fun k hk=>hk.2.2.2) _,by simpa [World.setCell] using h.size,h.low,h.apart,h.ca,h.cf⟩
theorem Fo.putN (h:Fo n0 Zb A2 c2 l gF cF A4 c4 gx gn B vd F nx w) (hk:Ks (fun b=>b=gn) w w1) (hn:IsI w1 gn (nI nx')):Fo n0 Zb A2 c2 l gF cF A4 c4 gx gn B vd F nx' w1:=
 ⟨(hk.block _ (blk_lt h.x) h.apart.1).trans h.x,hn,h.fl.same (hk.block _ h.fl.lt (Ne.symm h.apart.2.2)),Kd.F_step h.arcs (fun k hk2 hlt=>hk.block k hlt hk2.2.2.1),Kd.F_step h.rows (fun k hk2 hlt=>hk.block k hlt hk2.2.2.1),Nat.le_trans h.size hk.size,h.low,h.apart,h.ca,h.cf⟩
theorem Fo.putF (h:Fo n0 Zb A2 c2 l gF cF A4 c4 gx gn B vd F nx w) (hk:Ks (fun b=>b=gF) w w1) {G:List Int} (hg:IsI w1 gF G) (hl:G.length=F.length):Fo n0 Zb A2 c2 l gF cF A4 c4 gx gn B vd G nx w1:=by
 refine⟨?_,h.nx.same (hk.block _ h.nx.lt h.apart.2.2),hg,Kd.F_step h.arcs (fun k hk2 hlt=>hk.block k hlt hk2.2.1),Kd.F_step h.rows (fun k hk2 hlt=>hk.block k hlt hk2.2.1),Nat.le_trans h.size hk.size,h.low,h.apart,h.ca,by rw[hl];exact h.cf⟩
 rw[hl]
 exact(hk.block _ (blk_lt h.x) h.apart.2.1).trans h.x
theorem Fo.fi (h:Fo n0 Zb A2 c2 l gF cF A4 c4 gx gn B (.slice (some ⟨gd,0,none⟩) n0 n0) F nx w) (hd:IsI w gd D) (hB:B≤gd) (hB':gd<B') (hw:B'≤w.heap.size):Fi n0 Zb A2 c2 l gF cF A4 c4 gx gd gn B' F D nx w:=by
 have hl:=h.low
 have hp:=h.apart
 exact⟨h.x,hd,h.nx,h.fl,Kd.F_mono h.arcs (fun k hk=>⟨by omega,hk.2.1,by omega,hk.2.2.1,hk.2.2.2⟩),Kd.F_mono h.rows (fun k hk=>⟨by omega,hk.2.1,by omega,hk.2.2.1,hk.2.2.2⟩),hw,⟨by omega,hB',by omega,by omega⟩,⟨by omega,hp.1,hp.2.1,by omega,by omega,hp.2.2⟩,h.ca,h.cf⟩
theorem Fo.ofFi (h:Fo n0 Zb A2 c2 l gF cF A4 c4 gx gn B (.slice (some ⟨gd,0,none⟩) n0 n0) F nx w) (hk:Ks (fun b=>b=gn) w w1) {C:Nat} (hf:Fi n0 Zb A2 c2 l gF cF A4 c4 gx gd gn C F D nx' w1):Fo n0 Zb A2 c2 l gF cF A4 c4 gx gn B (.slice (some ⟨gd,0,none⟩) n0 n0) F nx' w1:=h.putN hk hf.nx
end
theorem isI_clear {g:Nat} (m:Nat): ∀ {w:World} {X:List Int} (o:Nat),o+m=X.length→IsI w g X→IsI (w.setCells g o (List.replicate m (.int .i64 0))) g (X.take o ++ List.replicate m 0)∧Ks (fun b=>b=g) w (w.setCells g o (List.replicate m (.int .i64 0))):=by
 induction m with
 |zero=>
  intro w X o ho h
  rw[List.replicate_zero,List.replicate_zero,List.append_nil,List.take_of_length_le (by omega)]
  exact⟨h,Ks.refl _ _⟩
 |succ m ih=>
  intro w X o ho h
  obtain⟨h1,h2⟩:=ih (o+1) (by rw[List.length_set];omega) (h.put o 0)
  have e:(X.set o 0).take (o+1)=X.take o ++ [0]:=by
   apply List.ext_getElem?
   intro i
   rw[List.getElem?_take,List.getElem?_set,List.getElem?_append,List.length_take,List.getElem?_take]
   have hm:min o X.length=o:=by omega
   rw[hm]
   by_cases a:i<o
   ·rw[Yx (by omega),Yy (by omega),Yx a,Yx a]
   ·by_cases b:i=o
    ·subst b;rw[Yx (by omega),Yx rfl,Yx (by omega),Yy a,Nat.sub_self];rfl
    ·rw[Yy (by omega),Yy a,List.getElem?_eq_none (by simp;omega)]
  rw[e,List.append_assoc] at h1
  refine⟨h1,?_⟩
  exact((Ks.refl (fun b=>b=g) w).set (g:=g) (fun _=>rfl) o _).trans h2 (fun b hb _=>hb)
end H
namespace H
open P
open Q (bal)
theorem zero3 (w:World):(zeroValue 3).run Try.prog w= .ok (.int .i64 0) w:=by kernel_rfl
theorem pushW_snoc (F:List Int) (k:Int) (L:List S38) (e:S38):pushW F k (L ++ [e])=goS (pushW F k L) e k:=by unfold pushW;rw[List.foldl_append];rfl
theorem Right.take {l:List S74} {F:List Int} {n:Nat} {k:Int} (h0:0≤k) (hr:Right l F n) {L:List S38} (h: ∀ s,s∈L→StepOf l s∧k≤stRoom l F s) (hp:L.Pairwise (fun a b=>a.f0≠b.f0)) (j:Nat):Right l (H.pushW F k (L.take j)) n:=
 Right.pushW h0 _ hr (fun s hs=>h s (List.mem_of_mem_take hs)) (hp.sublist (List.take_sublist _ _))
theorem take_snoc {L:List S38} {j:Nat} {e:S38} (h:L[j]? =some e):L.take (j+1)=L.take j ++ [e]:=by
 rw[List.take_add_one,h];rfl
theorem ks_cellF {gF g j:Nat} {w w1:World} {v:Value} (h:Ks (fun b=>b=gF) w w1) (hc:w.cell? ⟨g,j,none⟩=some v) (hne: ¬ g=gF):w1.cell? ⟨g,j,none⟩=some v:=by
 have hb:=h.block g (Yb w _ hc) hne
 simpa [World.cell?,hb] using hc
def Ps (n0:Nat) (Zb:Bool) (A2:Option Addr) (c2:Nat) (l:List S74) (gF cF:Nat) (A4:Option Addr) (c4 gx gn B gd:Nat) (D:List Int) (s t:Nat) (R:List Int) (w w':World) (k:Nat):Prop:=
 ∃ (F:List Int) (nx:List Nat),IsFlow l F n0 s t∧NxOk l n0 nx∧209715200<(k:Int)+bal l F s∧phaseF l D s t k F nx=R∧Fo n0 Zb A2 c2 l gF cF A4 c4 gx gn B (.slice (some ⟨gd,0,none⟩) n0 n0) F nx w'∧IsI w' gd D∧Ks (fun b=>b=gx∨b=gF∨b=gn) w w'
set_option maxHeartbeats 20000000 in
set_option maxRecDepth 100000 in
theorem phase_calls (n0:Nat) (Zb:Bool) (A2:Option Addr) (c2:Nat) (l:List S74) (gF cF:Nat) (A4:Option Addr) (c4 gx gn:Nat) (vd:Value) (F:List Int) (s t:Nat) (nx0:List Nat) (w:World)
  (hf:IsFlow l F n0 s t) (hb0:0≤bal l F s) (hs:s<n0) (ht:t<n0) (hst:s≠t) (hn:nx0.length=n0) (h:Fo n0 Zb A2 c2 l gF cF A4 c4 gx gn w.heap.size vd F nx0 w):
  Calls Try.prog 168 #[.pointer (some ⟨gx,0,none⟩), .int .i64 (s:Int), .int .i64 (t:Int)] w fun e w'=> ∃ (vd':Value) (nx':List Nat),e= .returned (.bool (!decide ((dOf n0 (bfP l F n0 s)).getD t 0<0)))∧nx'.length=n0∧
   Fo n0 Zb A2 c2 l gF cF A4 c4 gx gn w.heap.size vd' (if (dOf n0 (bfP l F n0 s)).getD t 0<0 then F else phaseF l (dOf n0 (bfP l F n0 s)) s t 300000000 F (List.replicate n0 0)) nx' w'∧Ks (fun b=>b=gx∨b=gF∨b=gn) w w':=by
 have hu118:=Try.underlying118
 have hu184:=Try.underlying184
 have hu115:=Try.underlying115
 have hu38:=Try.underlying38
 have hr:=hf.right
 have hn50:=hr.fifty
 have hpos:=hr.pos
 have hDlen:(dOf n0 (bfP l F n0 s)).length=n0:=dOf_len n0 _
 have hfine:=netG_fine (F:=F) hr hs
 have hDb: ∀ v,v<n0→ -1≤(dOf n0 (bfP l F n0 s)).getD v 0∧(dOf n0 (bfP l F n0 s)).getD v 0≤50:=by
  intro v hv
  have h1:=hfine.hD v hv
  refine⟨?_,by have h1:(dOf n0 (bfP l F n0 s)).getD v 0<(n0:Int):=h1;omega⟩
  rw[dOf_get _ 0 hv]
  cases hf:fnd (bfP l F n0 s) v with
  |none=>simp only;omega
  |some x=>simp only;omega
 have hfineG: ∀ G:List Int,(netG l G (dOf n0 (bfP l F n0 s))).Fine s n0:=fun G=>netG_fine (F:=G) hr hs
 have hpush: ∀ {G:List Int} {L:List S38},IsFlow l G n0 s t→Leads (toP l) (fun v=>stL l v l.length) s L t→(∀ e,e∈L→(netG l G (dOf n0 (bfP l F n0 s))).adm (frP l e) e=true)→
   IsFlow l (pushW G (leastR l G L) L) n0 s t∧1≤leastR l G L∧L≠[]∧bal l (pushW G (leastR l G L) L) s=bal l G s+leastR l G L∧L.Pairwise (fun a b=>a.f0≠b.f0)∧(∀ s,s∈L→StepOf l s)∧leastR l G L≤1048576:=fun hG hL ha=>push_found hG hr hs hst hL ha
 obtain⟨D,hD⟩: ∃ D_,D_=dOf n0 (bfP l F n0 s):=⟨_,rfl⟩
 have HFIN:Aside0 (∀ G:List Int,(netG l G D).Fine s n0):=⟨by rw[hD];exact hfineG⟩
 have HPUSH:Aside0 (∀ {G:List Int} {L:List S38},IsFlow l G n0 s t→Leads (toP l) (fun v=>stL l v l.length) s L t→(∀ e,e∈L→(netG l G D).adm (frP l e) e=true)→
   IsFlow l (pushW G (leastR l G L) L) n0 s t∧1≤leastR l G L∧L≠[]∧bal l (pushW G (leastR l G L) L) s=bal l G s+leastR l G L∧L.Pairwise (fun a b=>a.f0≠b.f0)∧(∀ s,s∈L→StepOf l s)∧leastR l G L≤1048576):=⟨by rw[hD];exact hpush⟩
 rw[← hD] at hDlen hDb
 have HDE:=Ya hD
 have HDB:=Ya hDb
 have HFL:=Ya hf
 have HB0:=Ya hb0
 have HR:=Ya hr
 have HF:=Ya h
 rw[← hD]
 clear hf hb0 hr hfine hDb hfineG hpush hD h
 obtain⟨y,hy⟩: ∃ y_,y_=D.getD t 0:=⟨_,rfl⟩
 rw[← hy]
 have HY:=Ya hy
 clear hy
 have pt:(0:Int)≤(t:Int):=by omega
 have qt:(t:Int)<(n0:Int):=by omega
 go_enter Try.func168,Try.ntmps168
 have x0:w.cell? ⟨gx,0,none⟩=some (.int .i64 (n0:Int)):=(Yc HF.out.x 0).trans rfl;have x1:w.cell? ⟨gx,1,none⟩=some (.bool Zb):=(Yc HF.out.x 1).trans rfl;have x2:w.cell? ⟨gx,2,none⟩=some (.slice A2 l.length c2):=(Yc HF.out.x 2).trans rfl;have x3:w.cell? ⟨gx,3,none⟩=some (.slice (some ⟨gF,0,none⟩) F.length cF):=(Yc HF.out.x 3).trans rfl;have x4:w.cell? ⟨gx,4,none⟩=some (.slice A4 n0 c4):=(Yc HF.out.x 4).trans rfl;have x6:w.cell? ⟨gx,6,none⟩=some (.slice (some ⟨gn,0,none⟩) n0 n0):=(Yc HF.out.x 6).trans rfl
 go_upto_region 2 with (first|(go_at_call 108;refine(far_calls n0 Zb A2 c2 l (some ⟨gF,0,none⟩) cF F A4 c4 s _ HR.out hs HF.out.ca HF.out.cf HF.out.ca_ (isI_C HF.out.fl (by have:=HR.out.len;have:=HR.out.arcs;omega)) HF.out.cr_).mono ?_;rintro e_ w5 ⟨gd,rfl,hge,hd,hb⟩;have m0_:=Ya (HF.out.below hb);have HGE:=Ya hge;have HD5:=Ya hd;have HB5:=Ya hb;clear HF hge hd hb x0 x1 x2 x3 x4 x6;have HF:=m0_;clear m0_;have y5:w5.cell? ⟨gx,5,none⟩=some vd:=(Yc HF.out.x 5).trans rfl;have f5:=Yf HF.out.x 5)|fail)
 have hDb5:=HD5.out
 rw[← HDE.out] at hDb5
 have hlow:=HF.out.low
 have HFD:Aside0 (Fo n0 Zb A2 c2 l gF cF A4 c4 gx gn w.heap.size (.slice (some ⟨gd,0,none⟩) n0 n0) F nx0 (w5.setCell ⟨gx,5,none⟩ (.slice (some ⟨gd,0,none⟩) n0 n0))):=⟨HF.out.putD _⟩
 have HDI:Aside0 (IsI (w5.setCell ⟨gx,5,none⟩ (.slice (some ⟨gd,0,none⟩) n0 n0)) gd D):=⟨hDb5.far (p:=⟨gx,5,none⟩) (by have:=HGE.out;show gd≠gx;omega) _⟩
 have HK:Aside0 (Ks (fun b=>b=gx∨b=gF∨b=gn) w (w5.setCell ⟨gx,5,none⟩ (.slice (some ⟨gd,0,none⟩) n0 n0))):=⟨(Ks.of_below HB5.out _).set (g:=gx) (fun _=> .inl rfl) 5 _⟩
 have HGD:=HGE
 have HSZ:Aside0 (gd<(w5.setCell ⟨gx,5,none⟩ (.slice (some ⟨gd,0,none⟩) n0 n0)).heap.size):=⟨HDI.out.lt⟩
 clear HF HD5 HB5 hDb5 y5 f5 HGE
 generalize w5.setCell ⟨gx,5,none⟩ (.slice (some ⟨gd,0,none⟩) n0 n0)=w6 at *
 have HF:=HFD
 clear HFD
 have x0:w6.cell? ⟨gx,0,none⟩=some (.int .i64 (n0:Int)):=(Yc HF.out.x 0).trans rfl;have x1:w6.cell? ⟨gx,1,none⟩=some (.bool Zb):=(Yc HF.out.x 1).trans rfl;have x2:w6.cell? ⟨gx,2,none⟩=some (.slice A2 l.length c2):=(Yc HF.out.x 2).trans rfl;have x3:w6.cell? ⟨gx,3,none⟩=some (.slice (some ⟨gF,0,none⟩) F.length cF):=(Yc HF.out.x 3).trans rfl;have x4:w6.cell? ⟨gx,4,none⟩=some (.slice A4 n0 c4):=(Yc HF.out.x 4).trans rfl;have x6:w6.cell? ⟨gx,6,none⟩=some (.slice (some ⟨gn,0,none⟩) n0 n0):=(Yc HF.out.x 6).trans rfl
 have x5:w6.cell? ⟨gx,5,none⟩=some (.slice (some ⟨gd,0,none⟩) n0 n0):=(Yc HF.out.x 5).trans rfl
 have d0:w6.cell? ⟨gd,t,none⟩=some (.int .i64 y):=by rw[HY.out];exact HDI.out.cell (by rw[hDlen];exact ht)
 by_cases hy0:y<0
 ·have e1:decide (y<0)=true:=Yv hy0
  go_wp2_with fail
  go_ret
  exact⟨rfl,_,nx0,hn,HF.out,HK.out⟩
 ·have e1:decide (y<0)=false:=Yw hy0
  have hclr: ∀ ty,(Builtin.clear_ #[25] ty #[.slice (some ⟨gn,0,none⟩) n0 n0]).run Try.prog w6= .ok (.tuple #[]) (w6.setCells gn 0 (List.replicate n0 (.int .i64 0))):=fun ty=>Lib.run_clear_slice w6 25 3 ty (.int .i64 0) Try.underlying25 zero3 rfl rfl gn 0 n0 n0 (by omega) (fun j hj=>by rw[Nat.zero_add,HF.out.nx.cell (by rw[nI_len,hn];exact hj)];rfl) (fun j hj=>HF.out.nx.free _)
  obtain⟨hz,hzk⟩:=isI_clear (g:=gn) n0 (w:=w6) (X:=nI nx0) 0 (by rw[nI_len,hn];omega) HF.out.nx
  rw[List.take_zero,List.nil_append,show List.replicate n0 (0:Int)=nI (List.replicate n0 0) by unfold nI;rw[List.map_replicate];rfl] at hz
  have HF2:Aside0 (Fo n0 Zb A2 c2 l gF cF A4 c4 gx gn w.heap.size (.slice (some ⟨gd,0,none⟩) n0 n0) F (List.replicate n0 0) (w6.setCells gn 0 (List.replicate n0 (.int .i64 0)))):=⟨HF.out.putN hzk hz⟩
  have HD2:Aside0 (IsI (w6.setCells gn 0 (List.replicate n0 (.int .i64 0))) gd D):=⟨HDI.out.kept hzk (by show ¬ gd=gn;have:=HGD.out;omega)⟩
  have HK2:Aside0 (Ks (fun b=>b=gx∨b=gF∨b=gn) w (w6.setCells gn 0 (List.replicate n0 (.int .i64 0)))):=⟨HK.out.trans hzk (fun b hb _=> .inr (.inr hb))⟩
  clear hz hzk
  go_wp2_with fail
  clear HF HDI HK hclr x0 x1 x2 x3 x4 x5 x6 d0 HSZ
  have HF:=HF2
  have HDI:=HD2
  have HK:=HK2
  clear HF2 HD2 HK2
  generalize w6.setCells gn 0 (List.replicate n0 (.int .i64 0))=w7 at *
  obtain⟨R,hR⟩: ∃ R,R=phaseF l D s t 300000000 F (List.replicate n0 0):=⟨_,rfl⟩
  have HRR:=Ya hR
  clear hR
  go_loopw [] (fun w'=> ∃ k,Ps n0 Zb A2 c2 l gF cF A4 c4 gx gn w.heap.size gd D s t R w w' k) (fun w'=>least (fun k=>Ps n0 Zb A2 c2 l gF cF A4 c4 gx gn w.heap.size gd D s t R w w' k))
  case atStart=>exact⟨300000000,F,List.replicate n0 0,HFL.out,nx_zero l n0,by have:=HB0.out;omega,HRR.out.symm,HF.out,HDI.out,HK.out⟩
  case round=>
   clear HF HDI HK
   have hmin:=least_spec hrel
   obtain⟨kk,hkk⟩: ∃ k_,k_=least (fun k=>Ps n0 Zb A2 c2 l gF cF A4 c4 gx gn w.heap.size gd D s t R w wr k):=⟨_,rfl⟩
   rw[← hkk] at hmin
   have HLE:=Ya hkk
   clear hrel hkk
   obtain⟨G,nx,hgf,hnx,hgk,hgp,hF,hdi,hK⟩:=hmin
   have hgt:=flow_top hgf hs hst
   obtain⟨k,rfl⟩: ∃ k,kk=k+1:=⟨kk - 1,by omega⟩
   have HGF:=Ya hgf
   have HNX:=Ya hnx
   have HGK:=Ya hgk
   have HGP:=Ya hgp
   have HF:=Ya hF
   have HDI:=Ya hdi
   have HK:=Ya hK
   have hwsz:w.heap.size≤wr.heap.size:=hK.size
   have HFI:Aside0 (Fi n0 Zb A2 c2 l gF cF A4 c4 gx gd gn wr.heap.size G D nx wr):=⟨hF.fi hdi HGD.out hdi.lt (Nat.le_refl _)⟩
   obtain⟨RD,hRD⟩: ∃ R_,R_=downG (netG l G D) s t 2000000 s [] nx:=⟨_,rfl⟩
   have hfd:=downG_found (t:=t) (HFIN.out G) 2000000 (dinv_start (F:=G) (D:=D) hs hnx) (downM_lt hgf.right.arcs hgf.right.fifty nx)
   rw[← hRD] at hfd
   have HFD:=Ya hfd
   have HRD:=Ya hRD
   clear hgf hnx hgk hgp hF hdi hK hgt hfd hRD
   go_upto_region 6 with (first|(go_at_call 174;refine(down_calls n0 Zb A2 c2 l gF cF A4 c4 gx gd gn G D s t nx _ HGF.out.right hDlen HDB.out (HFIN.out G) HNX.out hs ht HFI.out).mono ?_;rintro e_ w8 ⟨vw,rfl,hvr,hfi,hks⟩;rw[← HRD.out] at hvr hfi ⊢;have m0_:=Ya (HF.out.ofFi hks hfi);have m1_:=Ya (HDI.out.kept hks (by show ¬ gd=gn;have:=HGD.out;have:=HF.out.low;omega));have m2_:=Ya (HK.out.trans hks (fun b hb _=> .inr (.inr hb)));have HVR:=Ya hvr;clear HF HDI HK HFI hvr hfi hks;have HF:=m0_;have HDI:=m1_;have HK:=m2_;clear m0_ m1_ m2_)|fail)
   obtain⟨o,nx'⟩:=RD
   cases o with
   |none=>
    have e2:(!(none:Option (List S38)).isSome)=true:=rfl
    have hq:G=R:=by rw[← HGP.out,phase_end HRD.out.symm]
    go_wp2_with fail
    go_ret
    exact⟨rfl,_,nx',HFD.out.len,by rw[← HRR.out, ← hq];exact HF.out,HK.out⟩
   |some L=>
    have e2:(!(some L:Option (List S38)).isSome)=false:=rfl
    obtain⟨hL1,hL2⟩:=HFD.out.way L rfl
    have hLl:=leads_len (HFIN.out G).hfr hL1 hL2
    obtain⟨p1,p2,p3,p4,p5,p6,p7⟩:=HPUSH.out HGF.out hL1 hL2
    have hLn:L.length≤50:=by
     have h_1:=(HDB.out t ht).2
     have h_2:=(HFIN.out G).hs
     have h_3:(netG l G D).D t=D.getD t 0:=rfl
     omega
    have hLp:0<L.length:=List.length_pos_iff.2 p3
    have HP1:=Ya p1
    have HP4:=Ya p4
    have HP5:=Ya p5
    have HP6:=Ya p6
    have hRv:=HVR.out L rfl
    obtain⟨Aw,cw,ew⟩:=Kd.R_slice hRv
    subst ew
    have hCw:=(Kd.R_reads' hRv).2.2
    have hcw:=(Kd.R_reads' hRv).2.1
    obtain⟨ad,ead,_⟩:=hCw.2.2 hLp
    subst ead
    obtain⟨g,eg⟩:=Kd.R_head hRv
    subst eg
    have hgb:wr.heap.size≤g:=Kd.R_base hRv g rfl
    have HWC:Aside0 (∀ (j:Nat) (e:S38),L[j]? =some e→w8.cell? ⟨g,j * 2,none⟩=some (.int .i64 e.f0)∧w8.cell? ⟨g,j * 2+1,none⟩=some (.bool e.f1)):=⟨by
     intro j e hj
     obtain⟨ad,ead,c0,c1⟩:=at_T38 hCw (j:Int) (by omega) (by have:=(List.getElem?_eq_some_iff.1 hj).1;omega)
     injection ead with ead
     subst ead
     have hee:rd_T38 L (j:Int)=e:=by
      unfold rd_T38
      rw[Int.toNat_natCast,List.getD_eq_getElem?_getD,hj]
      rfl
     rw[hee,Int.toNat_natCast,add_at,Nat.zero_add] at c0 c1
     exact⟨c0,c1⟩⟩
    have hgl:g<w8.heap.size:=Kd.R_lt hRv g rfl
    have HGG:Aside0 (w.heap.size≤g):=⟨Nat.le_trans hwsz hgb⟩
    clear hL1 hL2 hLl p1 p4 p5 p6 hRv hCw hgb HVR
    have x0:w8.cell? ⟨gx,0,none⟩=some (.int .i64 (n0:Int)):=(Yc HF.out.x 0).trans rfl;have x1:w8.cell? ⟨gx,1,none⟩=some (.bool Zb):=(Yc HF.out.x 1).trans rfl;have x2:w8.cell? ⟨gx,2,none⟩=some (.slice A2 l.length c2):=(Yc HF.out.x 2).trans rfl;have x3:w8.cell? ⟨gx,3,none⟩=some (.slice (some ⟨gF,0,none⟩) G.length cF):=(Yc HF.out.x 3).trans rfl;have x4:w8.cell? ⟨gx,4,none⟩=some (.slice A4 n0 c4):=(Yc HF.out.x 4).trans rfl;have x6:w8.cell? ⟨gx,6,none⟩=some (.slice (some ⟨gn,0,none⟩) n0 n0):=(Yc HF.out.x 6).trans rfl
    obtain⟨m,hm⟩: ∃ m_,m_=leastR l G L:=⟨_,rfl⟩
    rw[← hm] at p2 p7
    have HMM:=Ya hm
    clear hm
    go_upto_region 9 with (first|(go_at_call 153;refine(least_calls n0 Zb A2 c2 l (some ⟨gF,0,none⟩) cF G g cw L _ HGF.out.right HP6.out hLp (by omega) hcw HWC.out HF.out.ca HF.out.cf HF.out.ca_ (isI_C HF.out.fl (by have:=HGF.out.right.len;have:=HGF.out.right.arcs;omega))).mono ?_;rintro e_ w9 ⟨rfl,hb⟩;rw[← HMM.out];have m0_:=Ya (HF.out.below hb);have m1_:=Ya (HDI.out.below hb);have m2_:=Ya (HK.out.below hb);have m3_:Aside0 (∀ (j:Nat) (e:S38),L[j]? =some e→w9.cell? ⟨g,j * 2,none⟩=some (.int .i64 e.f0)∧w9.cell? ⟨g,j * 2+1,none⟩=some (.bool e.f1)):=⟨fun j e hj=>⟨pw_cell_below hb (HWC.out j e hj).1,pw_cell_below hb (HWC.out j e hj).2⟩⟩;have hgl9:g<w9.heap.size:=Nat.lt_of_lt_of_le hgl hb.size;clear HF HDI HK HWC hb x0 x1 x2 x3 x4 x6;have HF:=m0_;have HDI:=m1_;have HK:=m2_;have HWC:=m3_;clear m0_ m1_ m2_ m3_)|fail)
    go_wp2_with fail
    go_loopw [51] (fun v51 w'=> ∃ j:Nat,j≤L.length∧v51= .int .i64 (j:Int)∧Aside0 (Fo n0 Zb A2 c2 l gF cF A4 c4 gx gn w.heap.size (.slice (some ⟨gd,0,none⟩) n0 n0) (pushW G m (L.take j)) nx' w')∧Aside0 (IsI w' gd D)∧Aside0 (Ks (fun b=>b=gx∨b=gF∨b=gn) w w')∧Aside0 (∀ (j:Nat) (e:S38),L[j]? =some e→w'.cell? ⟨g,j * 2,none⟩=some (.int .i64 e.f0)∧w'.cell? ⟨g,j * 2+1,none⟩=some (.bool e.f1))∧Aside0 (g<w'.heap.size)) (fun v51 _=>L.length - (intOf v51).toNat)
    case atStart=>exact⟨0,by omega,rfl,by rw[List.take_zero];exact HF,HDI,HK,HWC,⟨hgl9⟩⟩
    case round=>
     clear HF HDI HK HWC hgl hgl9
     obtain⟨j,hj,rfl,HF,HDI,HK,HWC,HGL⟩:=hrel
     by_cases hlt:j<L.length
     ·have e3:decide ((j:Int)<(L.length:Int))=true:=Yv (by omega)
      obtain⟨e,he⟩: ∃ e,L[j]? =some e:=⟨_,List.getElem?_eq_getElem hlt⟩
      obtain⟨c0,c1⟩:=HWC.out j e he
      have hmem:=List.mem_of_getElem? he
      have hso:=HP6.out e hmem
      have hrj:=Right.take (k:=m) (by omega) HGF.out.right (L:=L) (fun x hx=>⟨HP6.out x hx,by rw[HMM.out];exact leastR_le hx⟩) HP5.out j
      have hgo:goS (pushW G m (L.take j)) e m=pushW G m (L.take (j+1)):=by rw[take_snoc he,pushW_snoc]
      obtain⟨i,hi,hei⟩:=hso
      have hnj:=hrj.nums i hi
      have hlj:=hrj.len
      obtain⟨Fj,hFj⟩: ∃ F_,F_=pushW G m (L.take j):=⟨_,rfl⟩
      rw[← hFj] at hgo hnj hlj HF
      have HGO:=Ya hgo
      have HNJ:=Ya hnj
      have HLJ:=Ya hlj
      have HEI:=Ya hei
      have hgFj:(pushW G m (L.take (j+1))).length=Fj.length:=by rw[← hgo,goS_len]
      clear hrj hgo hnj hlj hei hFj he hmem
      have pj:(0:Int)≤(j:Int):=by omega
      have qj:(j:Int)<(L.length:Int):=by omega
      go_upto_region 12 with fail
      have HN:Aside0 ((wr.alloc (.cells #[.int .i64 e.f0, .bool e.f1] 38)).heap[wr.heap.size]? =some (.cells #[.int .i64 e.f0, .bool e.f1] 38 (0,0))):=⟨heap_alloc_new _ _⟩
      have hbA:Below wr.heap.size wr (wr.alloc (.cells #[.int .i64 e.f0, .bool e.f1] 38)):=Ye (Yo _ _) _
      have hszr:w.heap.size≤wr.heap.size:=HK.out.size
      have m0_:=Ya (HF.out.below hbA)
      have m1_:=Ya (HDI.out.below hbA)
      have m2_:=Ya (HK.out.below hbA)
      have m3_:Aside0 (∀ (j:Nat) (e:S38),L[j]? =some e→(wr.alloc (.cells #[.int .i64 e.f0, .bool e.f1] 38)).cell? ⟨g,j * 2,none⟩=some (.int .i64 e.f0)∧(wr.alloc (.cells #[.int .i64 e.f0, .bool e.f1] 38)).cell? ⟨g,j * 2+1,none⟩=some (.bool e.f1))→True:=fun _=>trivial
      have m4_:Aside0 (∀ (q:Nat) (e_:S38),L[q]? =some e_→(wr.alloc (.cells #[.int .i64 e.f0, .bool e.f1] 38)).cell? ⟨g,q * 2,none⟩=some (.int .i64 e_.f0)∧(wr.alloc (.cells #[.int .i64 e.f0, .bool e.f1] 38)).cell? ⟨g,q * 2+1,none⟩=some (.bool e_.f1)):=⟨fun q e_ hq=>⟨pw_cell_below hbA (HWC.out q e_ hq).1,pw_cell_below hbA (HWC.out q e_ hq).2⟩⟩
      clear HF HDI HK HWC c0 c1 m3_ hbA
      have HF:=m0_
      have HDI:=m1_
      have HK:=m2_
      have HWC:=m4_
      clear m0_ m1_ m2_ m4_
      have HGL:=HGL.out
      generalize wr.alloc (.cells #[.int .i64 e.f0, .bool e.f1] 38)=w11 at *
      generalize wr.heap.size=g11 at *
      have x0:w11.cell? ⟨gx,0,none⟩=some (.int .i64 (n0:Int)):=(Yc HF.out.x 0).trans rfl;have x1:w11.cell? ⟨gx,1,none⟩=some (.bool Zb):=(Yc HF.out.x 1).trans rfl;have x2:w11.cell? ⟨gx,2,none⟩=some (.slice A2 l.length c2):=(Yc HF.out.x 2).trans rfl;have x3:w11.cell? ⟨gx,3,none⟩=some (.slice (some ⟨gF,0,none⟩) Fj.length cF):=(Yc HF.out.x 3).trans rfl;have x4:w11.cell? ⟨gx,4,none⟩=some (.slice A4 n0 c4):=(Yc HF.out.x 4).trans rfl;have x6:w11.cell? ⟨gx,6,none⟩=some (.slice (some ⟨gn,0,none⟩) n0 n0):=(Yc HF.out.x 6).trans rfl
      have b0:w11.cell? ⟨g11,0,none⟩=some (.int .i64 e.f0):=(Yc HN.out 0).trans rfl
      have b1:w11.cell? ⟨g11,1,none⟩=some (.bool e.f1):=(Yc HN.out 1).trans rfl
      have hgx: ¬ gx=gF:=HF.out.apart.2.1
      have hg11: ¬ g11=gF:=by have:=HF.out.low;omega
      have hgw:g<w11.heap.size:=by have:=blk_lt HN.out;omega
      have hlF:i<Fj.length:=by have:=HLJ.out;omega
      clear x4 x6
      go_region_held3 (fun w'=>w'.cell? ⟨gx,0,none⟩=some (.int .i64 (n0:Int))∧w'.cell? ⟨gx,1,none⟩=some (.bool Zb)∧w'.cell? ⟨gx,2,none⟩=some (.slice A2 l.length c2)∧w'.cell? ⟨gx,3,none⟩=some (.slice (some ⟨gF,0,none⟩) Fj.length cF)∧w'.cell? ⟨g11,0,none⟩=some (.int .i64 e.f0)∧w'.cell? ⟨g11,1,none⟩=some (.bool e.f1))
       (first|((try dsimp only);(refine⟨?_,?_,?_,?_,?_,?_⟩)<;>first|(exact pw_cell_below (below_drew (Yo _ _)) (by assumption))|(exact ks_cellF hks (pw_cell_below (below_drew (Yo _ _)) (by assumption)) (by assumption))|(exact ks_cellF hks (by assumption) (by assumption)))|go_keep)
       (first|(go_at_call 154;refine(go_calls (n0:Int) Zb A2 c2 l gF cF Fj e m _ ?hF (i:=i) hlF HEI.out ⟨by omega,by omega⟩ (fun _=>by have:=HNJ.out;omega) (fun _=>by have:=HNJ.out;omega)).mono ?_;(case hF=>first|exact HF.out.fl|exact HF.out.fl.below (below_drew (Yo _ _)));rintro e_ w12 ⟨rfl,hil,hks⟩))
      rw[HGO.out] at hil
      have hbd:Below w11.heap.size w11 w11.drew:=below_drew (Yo _ _)
      have m0_:=Ya ((HF.out.below hbd).putF hks hil hgFj)
      have m1_:=Ya ((HDI.out.below hbd).kept hks (by show ¬ gd=gF;have:=HGD.out;have:=HF.out.low;omega))
      have m2_:=Ya ((HK.out.below hbd).trans hks (fun b hb _=> .inr (.inl hb)))
      have m4_:Aside0 (∀ (q:Nat) (e_:S38),L[q]? =some e_→w12.cell? ⟨g,q * 2,none⟩=some (.int .i64 e_.f0)∧w12.cell? ⟨g,q * 2+1,none⟩=some (.bool e_.f1)):=⟨fun q e_ hq=>⟨ks_cellF hks (pw_cell_below hbd (HWC.out q e_ hq).1) (by have:=HGG.out;have:=HF.out.low;omega),ks_cellF hks (pw_cell_below hbd (HWC.out q e_ hq).2) (by have:=HGG.out;have:=HF.out.low;omega)⟩⟩
      have hgw2:g<w12.heap.size:=Nat.lt_of_lt_of_le hgw (Nat.le_trans hbd.size hks.size)
      clear HF HDI HK HWC hbd hks hil x0 x1 x2 x3 b0 b1 HN
      go_wp2_with fail
      go_roundw
      case rel=>exact⟨j+1,by omega,by go_num,m0_,m1_,m2_,m4_,⟨hgw2⟩⟩
      case measure=>simp[intOf];omega
     ·have e3:decide ((j:Int)<(L.length:Int))=false:=Yw (by omega)
      have htk:L.take j=L:=List.take_of_length_le (by omega)
      rw[htk] at HF
      have HP1':Aside0 (IsFlow l (pushW G m L) n0 s t∧bal l (pushW G m L) s=bal l G s+m):=⟨by rw[HMM.out];exact⟨HP1.out,HP4.out⟩⟩
      have hps:phaseF l D s t (k+1) G nx=phaseF l D s t k (pushW G m L) nx':=by rw[HMM.out];exact phase_step HRD.out.symm
      have HPS:=Ya hps
      clear hps htk
      have hPs:Ps n0 Zb A2 c2 l gF cF A4 c4 gx gn w.heap.size gd D s t R w wr k:=⟨pushW G m L,nx',HP1'.out.1,⟨HFD.out.len,HFD.out.le⟩,by have:=HP1'.out.2;have:=HGK.out;omega,by rw[← HPS.out];exact HGP.out,HF.out,HDI.out,HK.out⟩
      go_wp2_with fail
      go_roundw
      case rel=>exact⟨k,hPs⟩
      case measure=>exact least_lt hPs (by rw[← HLE.out];exact Nat.lt_succ_self k)
end H
namespace H
open P
open Q (bal ends_zero)
theorem heap_k74:Kd.Heap k74:=Kd.heap_iso _ (Kd.heap_pair (Kd.heap_int _) (Kd.heap_pair (Kd.heap_int _) (Kd.heap_pair (Kd.heap_int _) (Kd.heap_int _))))
theorem made_ints (n:Nat) (hn:n≤500): ∀ W:World,(Instr.makeSlice 25 (.int .i64 (n:Int)) (.int .i64 (n:Int))).run Try.prog W= .ok (.slice (some ⟨W.heap.size,0,none⟩) n n) (W.alloc (.cells (nums .i64 (List.replicate n 0)).toArray 3)):=by
 intro W
 rw[print_make 25 3 .i64 8 Try.underlying25 (by kernel_rfl) (by omega) n (by omega) W]
 have hl:(madeCells #[Value.int .i64 0] n)=(nums .i64 (List.replicate n 0)).toArray:=by
  apply Array.ext'
  apply List.ext_getElem
  ·simp[nums,madeCells]
  ·intro i h1 h2
   simp[nums,madeCells,Nat.mod_one]
 rw[hl]
section
variable {n0:Nat} {Zb:Bool} {A2:Option Addr} {c2:Nat} {l:List S74} {gF cF:Nat} {A4:Option Addr} {c4 gx gn B B':Nat} {vd:Value} {F:List Int} {nx:List Nat} {w w5 w7 wf:World}
theorem Fo.raise (h:Fo n0 Zb A2 c2 l gF cF A4 c4 gx gn B vd F nx w) (h1:B≤B') (h2:B'≤w.heap.size):Fo n0 Zb A2 c2 l gF cF A4 c4 gx gn B' vd F nx w:=by
 have hl:=h.low
 exact⟨h.x,h.nx,h.fl,Kd.F_mono h.arcs (fun k hk=>⟨by omega,hk.2⟩),Kd.F_mono h.rows (fun k hk=>⟨by omega,hk.2⟩),h2,⟨by omega,by omega,by omega⟩,h.apart,h.ca,h.cf⟩
theorem Fo.made {base:Nat} {ok:Nat→Prop} (hb:Below w5.heap.size w5 wf) (hF:IsI w5 gF F) (ha:Kd.F k74 w5 (fun k=>k<w5.heap.size∧k≠gF) A2 l.length l) (hS:Kd.S (Kd.slice 38 k38) 34 w7 base ok (.slice A4 n0 c4) (rowsAt l n0 n0)) (hb7:Below w7.heap.size w7 wf) (hbase:w5.heap.size≤base)
  (hx:wf.heap[gx]? =some (.cells #[.int .i64 (n0:Int), .bool Zb, .slice A2 l.length c2, .slice (some ⟨gF,0,none⟩) F.length cF, .slice A4 n0 c4, .slice none 0 0, .slice (some ⟨gn,0,none⟩) n0 n0] 184 (0,0)))
  (hn:IsI wf gn (List.replicate n0 0)) (h1:w5.heap.size≤gn) (h2:w7.heap.size≤gx) (h3:gn≠gx) (h4:gn<base∨w7.heap.size≤gn) (h57:w5.heap.size≤w7.heap.size) (hca:l.length≤c2) (hcf:F.length≤cF):Fo n0 Zb A2 c2 l gF cF A4 c4 gx gn wf.heap.size (.slice none 0 0) F (List.replicate n0 0) wf:=by
 have hl5:=hF.lt
 have hn2:=hn.lt
 have hx2:=blk_lt hx
 have hr:=Kd.F_below (Kd.S_F (Kd.S_bound hS)) hb7
 refine⟨hx,by unfold nI;rw[List.map_replicate];exact hn,hF.below hb,Kd.F_mono (Kd.F_below ha hb) (fun k hk=> ?_),Kd.F_mono hr (fun k hk=> ?_),Nat.le_refl _,⟨hx2,hn2,?_⟩,⟨Ne.symm h3,by omega,by omega⟩,hca,hcf⟩
 ·have:=hb.size;exact⟨by omega,hk.2,by omega,by omega⟩
 ·have h5:=hk.2.1
  have h6:=hk.2.2.1
  exact⟨by omega,by omega,by omega,by omega⟩
 ·have:=hb.size;omega
end
theorem refill_stop {l:List S74} {n s t k:Nat} {F:List Int} (h:(dOf n (bfP l F n s)).getD t 0<0):refillF l n s t (k+1) F=F:=by rw[refillF,Yx h]
theorem refill_go {l:List S74} {n s t k:Nat} {F:List Int} (h: ¬ (dOf n (bfP l F n s)).getD t 0<0):refillF l n s t (k+1) F=refillF l n s t k (phaseF l (dOf n (bfP l F n s)) s t 300000000 F (List.replicate n 0)):=by rw[refillF,Yy h]
def Rs (n0:Nat) (Zb:Bool) (A2:Option Addr) (c2:Nat) (l:List S74) (gF cF:Nat) (A4:Option Addr) (c4 gx gn:Nat) (s t:Nat) (R:List Int) (w w':World) (k:Nat):Prop:=
 ∃ (F:List Int) (nx:List Nat) (vd:Value) (B:Nat),IsFlow l F n0 s t∧0≤bal l F s∧nx.length=n0∧209715200<(k:Int)+bal l F s∧refillF l n0 s t k F=R∧Fo n0 Zb A2 c2 l gF cF A4 c4 gx gn B vd F nx w'∧Ks (fun b=>b=gx∨b=gF∨b=gn) w w'
set_option maxHeartbeats 20000000 in
set_option maxRecDepth 100000 in
theorem refill_calls (n0:Nat) (Zb:Bool) (A2:Option Addr) (c2:Nat) (l:List S74) (gF cF:Nat) (F:List Int) (s t:Nat) (w:World)
  (hf:IsFlow l F n0 s t) (hb0:0≤bal l F s) (hs:s<n0) (ht:t<n0) (hst:s≠t) (hF:IsI w gF F) (hcF:F.length≤cF) (ha:Kd.F k74 w (fun k=>k<w.heap.size∧k≠gF) A2 l.length l) (hca:l.length≤c2):
  Calls Try.prog 155 #[.agg #[.int .i64 (n0:Int), .bool Zb, .slice A2 l.length c2], .slice (some ⟨gF,0,none⟩) F.length cF, .int .i64 (s:Int), .int .i64 (t:Int)] w fun e w'=>e= .returned (.tuple #[])∧IsI w' gF (refillF l n0 s t 300000000 F)∧Ks (fun b=>b=gF) w w':=by
 have hu24:=Try.underlying24
 have hu184:=Try.underlying184
 have hn50:=hf.right.fifty
 have hmk:=made_ints n0 (by omega)
 have HFL:=Ya hf
 have HB0:=Ya hb0
 have HIF:=Ya hF
 have HCF:=Ya hcF
 have HAF:=Ya ha
 have HCA:=Ya hca
 have hgF:=hF.lt
 obtain⟨R,hR⟩: ∃ R,R=refillF l n0 s t 300000000 F:=⟨_,rfl⟩
 rw[← hR]
 have HRR:=Ya hR
 clear hf hb0 hF hcF ha hca hR
 go_enter Try.func155,Try.ntmps155
 go_upto_region 1 with (first|((with_reducible refine gate_dst (N:=4) rfl ?_);refine Yz ?hg (N:=4) ?hd (cs:= #[.int .i64 (n0:Int), .bool Zb, .slice A2 l.length c2]) (t:=24) ?hr ?_;(case hd=>rfl);(case hg=>rfl);(case hr=>first|(go_simp;done)|(go_simp;rfl));intro g4 hg4 w5 Zf hb;have B4:=Ya Zf;have HB:=Ya hb;have HG4:=Ya hg4;clear hg4 Zf hb)|fail)
 have h0:w5.cell? ⟨g4,0,none⟩=some (.int .i64 (n0:Int)):=(Yc B4.out 0).trans rfl
 have h1:w5.cell? ⟨g4,1,none⟩=some (.bool Zb):=(Yc B4.out 1).trans rfl
 have h2:w5.cell? ⟨g4,2,none⟩=some (.slice A2 l.length c2):=(Yc B4.out 2).trans rfl
 have hsz:=HB.out.size
 have HIF5:=Ya (HIF.out.below HB.out)
 have HAF5:Aside0 (Kd.F k74 w5 (fun k=>k<w5.heap.size∧k≠gF) A2 l.length l):=⟨Kd.F_mono (Kd.F_below HAF.out HB.out) (fun k hk=>⟨by omega,hk.2⟩)⟩
 have HC5:=Ya (Kd.F_now HAF5.out)
 simp only[Act.put,List.setIfInBounds_toArray,List.set_cons_zero,List.set_cons_succ]
 go_cut [8] (fun v8 wx=> ∃ (gx gn:Nat) (A4:Option Addr) (c4:Nat),v8= .pointer (some ⟨gx,0,none⟩)∧Aside0 (Fo n0 Zb A2 c2 l gF cF A4 c4 gx gn wx.heap.size (.slice none 0 0) F (List.replicate n0 0) wx)∧Aside0 (Below w5.heap.size w5 wx)∧Aside0 (w5.heap.size≤gx∧w5.heap.size≤gn))
 case first=>
  go_region_held3 (fun w'=>w'.cell? ⟨g4,0,none⟩=some (.int .i64 (n0:Int))∧w'.cell? ⟨g4,1,none⟩=some (.bool Zb)∧w'.cell? ⟨g4,2,none⟩=some (.slice A2 l.length c2))
   (first|((try dsimp only);(refine⟨?_,?_,?_⟩)<;>first|(exact pw_cell_below (below_drew (Yo _ _)) (by assumption))|(exact pw_cell_below (Ye (Yo _ _) _) (by assumption))|(exact pw_cell_below hbr (by assumption))|(exact pw_cell_below (Ye (Yk (below_drew (Yo w5.heap.size w5)) hbr) _) (by assumption))|(exact pw_cell_below (Yk (below_drew (Ye (Yo w5.heap.size w5) _)) hbr) (by assumption))|(exact pw_cell_below (Yk (below_drew (Yo w5.heap.size w5)) hbr) (by assumption)))|go_keep)
   (first|(go_at_call 101;refine(at_calls n0 Zb A2 c2 l (some ⟨gF,0,none⟩) cF F.length _ ?hC HCA.out (by omega) (by omega) (by have:=HFL.out.right.arcs;omega) (fun k hk=>(HFL.out.right.ends k hk).1) (fun k hk=>(HFL.out.right.ends k hk).2)).mono ?_;(case hC=>first|exact HC5.out|exact Yt HC5.out (below_drew (Yo _ _))|exact Yt HC5.out (below_drew (Ye (Yo _ _) _)));rintro e_ w7 ⟨vr,rfl,hS,hbr⟩;obtain⟨A4,c4,ev⟩:=Kd.S_slice hS;subst ev;rw[rowsAt_len] at hS ⊢))
  ·go_wp2_with fail
   go_meet
   have hbb:Below w5.heap.size w5 w7:=Yk (below_drew (Yo w5.heap.size w5)) hbr
   have hsz7:=hbb.size
   refine⟨w7.heap.size+1,w7.heap.size,A4,c4,rfl,⟨Fo.made (Ye (Ye hbb _) _) HIF5.out HAF5.out hS (Ye (Ye (Yo _ _) _) _) (by simp) ?_ (IsI.below (w:=w7.alloc (.cells (nums .i64 (List.replicate n0 0)).toArray 3)) (heap_alloc_new w7 _) (Ye (Yo _ _) _)) (by omega) (by omega) (by omega) (.inr (Nat.le_refl _)) (by omega) HCA.out HCF.out⟩,⟨Ye (Ye hbb _) _⟩,⟨by omega,by omega⟩⟩
   have h_:=heap_alloc_new (w7.alloc (.cells (nums .i64 (List.replicate n0 0)).toArray 3)) (.cells #[.int .i64 (n0:Int), .bool Zb, .slice A2 l.length c2, .slice (some ⟨gF,0,none⟩) F.length cF, .slice A4 n0 c4, .slice none 0 0, .slice (some ⟨w7.heap.size,0,none⟩) n0 n0] 184)
   rw[show (w7.alloc (.cells (nums .i64 (List.replicate n0 0)).toArray 3)).heap.size=w7.heap.size+1 by simp] at h_
   exact h_
  ·go_wp2_with fail
   go_meet
   have hbb:Below w5.heap.size w5 w7:=Yk (below_drew (Ye (Yo w5.heap.size w5) _)) hbr
   have hsz7:=hbr.size
   rw[show (w5.alloc (.cells (nums .i64 (List.replicate n0 0)).toArray 3)).drew.heap.size=w5.heap.size+1 by simp] at hsz7
   refine⟨w7.heap.size,w5.heap.size,A4,c4,rfl,⟨Fo.made (Ye hbb _) HIF5.out HAF5.out hS (Ye (Yo _ _) _) (by simp) (heap_alloc_new w7 _) (IsI.below (w:=w7) (IsI.below (w:=(w5.alloc (.cells (nums .i64 (List.replicate n0 0)).toArray 3)).drew) (IsI.below (w:=w5.alloc (.cells (nums .i64 (List.replicate n0 0)).toArray 3)) (heap_alloc_new w5 _) (below_drew (Yo _ _))) hbr) (Ye (Yo _ _) _)) (by omega) (by omega) (by omega) (.inl (by simp)) (by omega) HCA.out HCF.out⟩,⟨Ye hbb _⟩,⟨by omega,by omega⟩⟩
 case rest=>
  obtain⟨gx,gn,A4,c4,rfl,HFO,HBC,HGX⟩:=hcut
  have HBW:Aside0 (Below w.heap.size w wc):=⟨Yk HB.out HBC.out⟩
  have HGW:Aside0 (w.heap.size≤gx∧w.heap.size≤gn):=⟨by have:=HGX.out;omega⟩
  clear h0 h1 h2 hmk HIF5 HAF5 HC5 HIF HAF HB HBC B4 HGX HG4 hsz
  go_wp2_with fail
  go_loopw [] (fun w'=> ∃ k,Rs n0 Zb A2 c2 l gF cF A4 c4 gx gn s t R wc w' k) (fun w'=>least (fun k=>Rs n0 Zb A2 c2 l gF cF A4 c4 gx gn s t R wc w' k))
  case atStart=>exact⟨300000000,F,List.replicate n0 0, .slice none 0 0,_,HFL.out,HB0.out,by simp,by have:=HB0.out;omega,HRR.out.symm,HFO.out,Ks.refl _ _⟩
  case round=>
   clear HFO
   have hmin:=least_spec hrel
   obtain⟨kk,hkk⟩: ∃ k_,k_=least (fun k=>Rs n0 Zb A2 c2 l gF cF A4 c4 gx gn s t R wc wr k):=⟨_,rfl⟩
   rw[← hkk] at hmin
   have HLE:=Ya hkk
   clear hrel hkk
   obtain⟨G,nx,vd,B,hgf,hg0,hnl,hgk,hgp,hF,hK⟩:=hmin
   have hgt:=flow_top hgf hs hst
   obtain⟨k,rfl⟩: ∃ k,kk=k+1:=⟨kk - 1,by omega⟩
   have HGF:=Ya hgf
   have HG0:=Ya hg0
   have HGK:=Ya hgk
   have HK:=Ya hK
   have HFO:=Ya (hF.raise hF.size (Nat.le_refl _))
   clear hgf hg0 hgk hF hK hgt
   by_cases hy:(dOf n0 (bfP l G n0 s)).getD t 0<0
   ·have hq:G=R:=by rw[← hgp,refill_stop hy]
    have HQ:=Ya hq
    have HY:=Ya hy
    clear hq hgp
    obtain⟨b,hb⟩: ∃ b_,b_=(!decide ((dOf n0 (bfP l G n0 s)).getD t 0<0)):=⟨_,rfl⟩
    have hbf:b=false:=by rw[hb,Yv hy];rfl
    have HBE:=Ya hb
    clear hy hb
    go_wp2_with (first|(go_at_call 168;refine(phase_calls n0 Zb A2 c2 l gF cF A4 c4 gx gn vd G s t nx _ HGF.out HG0.out hs ht hst hnl HFO.out).mono ?_;rintro e_ w8 ⟨vd',nx',rfl,hnl',hfo,hks⟩;rw[Yx HY.out] at hfo;rw[← HBE.out])|fail)
    refine bodyPost_end (results_none rfl _ _ _) rfl ⟨rfl,?_,?_⟩
    ·rw[← HQ.out];exact hfo.fl
    ·refine((Ks.of_below HBW.out (fun b=>b=gF)).trans (HK.out.trans hks (fun b hb _=>hb)) (fun b hb hlt=> ?_))
     have:=HGW.out
     rcases hb with h_|h_|h_
     ·omega
     ·exact h_
     ·omega
   ·have hq:refillF l n0 s t k (phaseF l (dOf n0 (bfP l G n0 s)) s t 300000000 G (List.replicate n0 0))=R:=by rw[← hgp,refill_go hy]
    have HQ:=Ya hq
    have HY:=Ya hy
    obtain⟨m1,m2⟩:=phase_grows HGF.out hs ht hst (by omega) 299999999
    have HM1:=Ya m1
    have HM2:=Ya m2
    clear hq hgp m1 m2
    obtain⟨b,hb⟩: ∃ b_,b_=(!decide ((dOf n0 (bfP l G n0 s)).getD t 0<0)):=⟨_,rfl⟩
    have hbf:b=true:=by rw[hb,Yw hy];rfl
    have HBE:=Ya hb
    clear hy hb
    go_wp2_with (first|(go_at_call 168;refine(phase_calls n0 Zb A2 c2 l gF cF A4 c4 gx gn vd G s t nx _ HGF.out HG0.out hs ht hst hnl HFO.out).mono ?_;rintro e_ w8 ⟨vd',nx',rfl,hnl',hfo,hks⟩;rw[Yy HY.out] at hfo;rw[← HBE.out];have HFN:=Ya hfo;have HKN:=Ya hks;clear hfo hks)|fail)
    have hRs:Rs n0 Zb A2 c2 l gF cF A4 c4 gx gn s t R wc w8 k:=by
     obtain⟨H,hH⟩: ∃ H_,H_=phaseF l (dOf n0 (bfP l G n0 s)) s t 300000000 G (List.replicate n0 0):=⟨_,rfl⟩
     have q1:=HM1.out
     have q2:=HM2.out
     rw[show 299999999+1=300000000 from rfl, ← hH] at q1 q2
     have q3:=HG0.out
     have q4:=HGK.out
     have q5:=HQ.out
     have q6:=HFN.out
     rw[← hH] at q5 q6
     exact⟨H,nx',vd',_,q1,by omega,hnl',by omega,q5,q6,HK.out.trans HKN.out (fun b hb _=>hb)⟩
    go_roundw
    case rel=>exact⟨k,hRs⟩
    case measure=>exact least_lt hRs (by rw[← HLE.out];exact Nat.lt_succ_self k)
set_option maxHeartbeats 4000000 in
set_option maxRecDepth 100000 in
theorem maxflow_Fill_calls (Zc:Int) (Zb:Bool) (Ze:Option Addr) (Zd:Nat) (Za:List S74) (a1:Int) (a2:Int) (r:List Int) (w:World) (Zq:Kd.C k74 w Ze Za.length Za) (Zr:Za.length≤Zd) (h:(if endsErr Zc Za a1 a2=0 then some (fillF Za Zc.toNat a1.toNat a2.toNat) else none)=some r):
  Calls Try.prog 121 #[.agg #[.int .i64 Zc, .bool Zb, .slice Ze Za.length Zd], .int .i64 a1, .int .i64 a2] w fun e w'=> ∃ v0_:Value,e= .returned (v0_)∧Kd.R (Kd.int .i64) 3 w' w.heap.size (fun _=>True) v0_ r∧Below w.heap.size w w':=by
 by_cases he:endsErr Zc Za a1 a2=0
 ·rw[Yx he] at h
  injection h with h
  obtain⟨n0,s0,t0,rfl,rfl,rfl,hs,ht,hst,hn,hr⟩:=ends_zero he
  simp only[Int.toNat_natCast] at h
  have hM:=fill_max hr hs ht hst
  have hlen:r.length=Za.length:=by rw[← h];exact hM.flow.right.len
  have HRE:=Ya h
  have harc:=hr.arcs
  have hmk:=made_ints Za.length (by omega)
  obtain⟨z1,z2⟩:=zeros_of (s:=s0) (t:=t0) hr
  have HZ1:=Ya z1
  have HZ2:=Ya z2
  have H2:=Ya Zq
  have HC2:=Ya Zr
  clear z1 z2 h he hn hr hM Zq Zr
  go_enter Try.func121,Try.ntmps121
  go_upto_region 2 with (first|((with_reducible refine gate_dst (N:=3) rfl ?_);refine Yz ?hg (N:=3) ?hd (cs:= #[.int .i64 (n0:Int), .bool Zb, .slice Ze Za.length Zd]) (t:=24) ?hr ?_;(case hd=>rfl);(case hg=>rfl);(case hr=>first|(go_simp;done)|(go_simp;rfl));intro g4 hg4 w5 Zf hb;have B4:=Ya Zf;have HB:=Ya hb;clear hg4 Zf hb;have h2:w5.cell? ⟨g4,2,none⟩=some (.slice Ze Za.length Zd):=(Yc B4.out 2).trans rfl)|fail)
  have hIA:IsI (w5.alloc (.cells (nums .i64 (List.replicate Za.length 0)).toArray 3)) w5.heap.size (List.replicate Za.length 0):=heap_alloc_new w5 _
  have HB6:Aside0 (Below w.heap.size w (w5.alloc (.cells (nums .i64 (List.replicate Za.length 0)).toArray 3))):=⟨Ye HB.out _⟩
  have B6:Aside0 ((w5.alloc (.cells (nums .i64 (List.replicate Za.length 0)).toArray 3)).heap[g4]? =_):=⟨Yn B4.out (Ye (Yo _ _) _)⟩
  have hgb:w.heap.size≤w5.heap.size:=HB.out.size
  clear HB B4 h2 hmk
  generalize w5.alloc (.cells (nums .i64 (List.replicate Za.length 0)).toArray 3)=w6 at *
  generalize w5.heap.size=gF at *
  have HIA:=Ya hIA
  clear hIA
  have h0:w6.cell? ⟨g4,0,none⟩=some (.int .i64 (n0:Int)):=(Yc B6.out 0).trans rfl
  have h1:w6.cell? ⟨g4,1,none⟩=some (.bool Zb):=(Yc B6.out 1).trans rfl
  have h2:w6.cell? ⟨g4,2,none⟩=some (.slice Ze Za.length Zd):=(Yc B6.out 2).trans rfl
  have key:=refill_calls n0 Zb Ze Zd Za gF Za.length (List.replicate Za.length 0) s0 t0 w6 HZ1.out (by rw[HZ2.out];exact Int.le_refl _) hs ht hst HIA.out (by simp) (Kd.F_mono (Kd.F_below (Kd.C_F heap_k74 H2.out) (below_low (Nat.le_refl _) HB6.out)) (fun k hk=>⟨by have:=HB6.out.size;omega,by omega⟩)) HC2.out
  rw[List.length_replicate] at key
  have HKEY:=Ya key
  clear key
  go_wp2_with (first|(go_at_call 155;refine HKEY.out.mono ?_;rintro e_ w9 ⟨rfl,hI,hk⟩)|fail)
  go_ret
  have hI2:IsI w9 gF r:=by rw[← HRE.out];exact hI
  have hR:=hI2.R (base:=w.heap.size) (ok:=fun _=>True) (by omega) hgb trivial
  rw[hlen] at hR
  exact⟨_,rfl,hR,hk.toBelow HB6.out HB6.out.size (fun b hb=>by have hb:b=gF:=hb;omega)⟩
 ·rw[Yy he] at h;cases h
end H
namespace H
open P
open Q (bal ends_zero)
def fillRes (l:List S74) (n s t:Nat) (H:Int):List Int × List Int × List Bool × List S38:=(fillS l n s t H,(reachS l (fillS l n s t H) n s).D,(reachS l (fillS l n s t H) n s).I,(reachS l (fillS l n s t H) n s).B)
def Ss (n0:Nat) (l:List S74) (s t:Nat) (Hz:Int) (R:List Int) (gF g4 g9:Nat) (Zb:Bool) (A2:Option Addr) (c2:Nat) (w w':World) (k:Nat):Prop:=
 ∃ F:List Int,SpanOk l F n0 s t (Hz+1)∧209715200<(k:Int)+bal l F s∧spanS l n0 s t Hz k F=R∧IsI w' gF F∧w'.heap[g4]? =some (.cells #[.int .i64 (n0:Int), .bool Zb, .slice A2 l.length c2] 24 (0,0))∧w'.heap[g9]? =some (.cells #[.slice none 0 0, .slice none 0 0, .slice none 0 0] 109 (0,0))∧Below w.heap.size w w'
set_option maxHeartbeats 20000000 in
set_option maxRecDepth 100000 in
theorem fill_core (n0:Nat) (Zb:Bool) (Ze:Option Addr) (Zd:Nat) (l:List S74) (s t:Nat) (a3:Int) (w:World) (hr:Right l (List.replicate l.length 0) n0) (hs:s<n0) (ht:t<n0) (hst:s≠t) (hH:0≤a3) (hC:Kd.C k74 w Ze l.length l) (hc:l.length≤Zd):
  Calls Try.prog 118 #[.agg #[.int .i64 (n0:Int), .bool Zb, .slice Ze l.length Zd], .int .i64 (s:Int), .int .i64 (t:Int), .int .i64 a3] w fun e w'=> ∃ v0_ v1_ v2_ v3_:Value,e= .returned (.tuple #[v0_, .agg #[v1_,v2_,v3_]])∧Kd.R (Kd.int .i64) 3 w' w.heap.size (fun k_=>some k_≠(v1_:Value).ownBlock) v0_ (fillS l n0 s t a3)∧Kd.R (Kd.int .i64) 3 w' w.heap.size (fun k_=>some k_≠(v0_:Value).ownBlock) v1_ (reachS l (fillS l n0 s t a3) n0 s).D∧Kd.R Kd.bool 4 w' w.heap.size (fun _=>True) v2_ (reachS l (fillS l n0 s t a3) n0 s).I∧Kd.R k38 38 w' w.heap.size (fun _=>True) v3_ (reachS l (fillS l n0 s t a3) n0 s).B∧Below w.heap.size w w':=by
 have hu24:=Try.underlying24
 have hu109:=Try.underlying109
 have hu118:=Try.underlying118
 have hu115:=Try.underlying115
 have hu38:=Try.underlying38
 have hn50:=hr.fifty
 have harc:=hr.arcs
 have hmk:=made_ints l.length (by omega)
 obtain⟨R,hR⟩: ∃ R,R=fillS l n0 s t a3:=⟨_,rfl⟩
 rw[← hR]
 have HRR:Aside0 (spanS l n0 s t a3 300000000 (List.replicate l.length 0)=R):=⟨hR.symm⟩
 have H0:=Ya (span_zero (t:=t) (s:=s) hr (c:=a3+1) (by omega))
 have HZ:=Ya (zeros_of (s:=s) (t:=t) hr).2
 have H2:=Ya hC
 have HC2:=Ya hc
 clear hr hR hC hc
 go_enter Try.func118,Try.ntmps118
 go_upto_region 1 with (first|((with_reducible refine gate_dst (N:=4) rfl ?_);refine Yz ?hg (N:=4) ?hd (cs:= #[.int .i64 (n0:Int), .bool Zb, .slice Ze l.length Zd]) (t:=24) ?hr ?_;(case hd=>rfl);(case hg=>rfl);(case hr=>first|(go_simp;done)|(go_simp;rfl));intro g4 hg4 w5 Zf hb;have B4:=Ya Zf;have HB:=Ya hb;have HG4:Aside0 (w.heap.size≤g4):=⟨Nat.le_of_eq hg4.symm⟩;clear hg4 Zf hb)|fail)
 have B9:Aside0 ((w5.alloc (.cells #[.slice none 0 0, .slice none 0 0, .slice none 0 0] 109)).heap[w5.heap.size]? =some (.cells #[.slice none 0 0, .slice none 0 0, .slice none 0 0] 109 (0,0))):=⟨heap_alloc_new w5 _⟩
 have m0_:=Ya (Yn B4.out (Ye (Yo _ _) (.cells #[.slice none 0 0, .slice none 0 0, .slice none 0 0] 109)))
 have m1_:=Ya (Ye HB.out (.cells #[.slice none 0 0, .slice none 0 0, .slice none 0 0] 109))
 have hg49:g4<w5.heap.size:=blk_lt B4.out
 have hg9w:w.heap.size≤w5.heap.size:=HB.out.size
 clear B4 HB
 have B4:=m0_
 have HB:=m1_
 clear m0_ m1_
 generalize w5.alloc (.cells #[.slice none 0 0, .slice none 0 0, .slice none 0 0] 109)=w6 at *
 generalize w5.heap.size=g9 at *
 have x2:w6.cell? ⟨g4,2,none⟩=some (.slice Ze l.length Zd):=(Yc B4.out 2).trans rfl
 go_step3
 go_wp2_with fail
 go_step3
 go_wp2_with fail
 have hIA:Aside0 (IsI (w6.alloc (.cells (nums .i64 (List.replicate l.length 0)).toArray 3)) w6.heap.size (List.replicate l.length 0)):=⟨heap_alloc_new w6 _⟩
 have m0_:=Ya (Yn B4.out (Ye (Yo _ _) (.cells (nums .i64 (List.replicate l.length 0)).toArray 3)))
 have m1_:=Ya (Yn B9.out (Ye (Yo _ _) (.cells (nums .i64 (List.replicate l.length 0)).toArray 3)))
 have m2_:=Ya (Ye HB.out (.cells (nums .i64 (List.replicate l.length 0)).toArray 3))
 have hgF:w.heap.size≤w6.heap.size∧g4≠w6.heap.size∧g9≠w6.heap.size:=⟨HB.out.size,by have:=blk_lt B4.out;omega,by have:=blk_lt B9.out;omega⟩
 clear B4 B9 HB x2 hmk
 have B4:=m0_
 have B9:=m1_
 have HB:=m2_
 clear m0_ m1_ m2_
 generalize w6.alloc (.cells (nums .i64 (List.replicate l.length 0)).toArray 3)=w7 at *
 generalize w6.heap.size=gF at *
 go_loopw [] (fun w'=> ∃ k,Ss n0 l s t a3 R gF g4 g9 Zb Ze Zd w w' k) (fun w'=>least (fun k=>Ss n0 l s t a3 R gF g4 g9 Zb Ze Zd w w' k))
 case atStart=>exact⟨300000000,_,H0.out,by rw[HZ.out];omega,HRR.out,hIA.out,B4.out,B9.out,HB.out⟩
 case round=>
  clear B4 B9 HB hIA
  have hmin:=least_spec hrel
  obtain⟨kk,hkk⟩: ∃ k_,k_=least (fun k=>Ss n0 l s t a3 R gF g4 g9 Zb Ze Zd w wr k):=⟨_,rfl⟩
  rw[← hkk] at hmin
  have HLE:=Ya hkk
  clear hrel hkk
  obtain⟨F,hok,hgk,hgp,hF,hB4,hB9,hB⟩:=hmin
  have hgt:=flow_top hok.flow hs hst
  obtain⟨k,rfl⟩: ∃ k,kk=k+1:=⟨kk - 1,by omega⟩
  have hRt:=hok.flow.right
  have hFl:=hRt.len
  obtain⟨q,hq,_⟩:=hok.nums
  obtain⟨_,hRO⟩:=reach_ok hRt hs (tightP_noGain hRt hq)
  have HRO:=Ya hRO
  have HRT:=Ya hRt
  have HOK:=Ya hok
  have HGK:=Ya hgk
  have HGP:=Ya hgp
  have HF:=Ya hF
  have B4:=Ya hB4
  have B9:=Ya hB9
  have HB:=Ya hB
  have hRI:=hRO.ok.hI
  have hRD:=hRO.ok.hD
  have hRB:=hRO.ok.hB
  have keyF:=from_calls n0 Zb Ze Zd l (some ⟨gF,0,none⟩) l.length F s wr hRt hs (Yt H2.out hB) HC2.out (isI_C hF (by omega)) (by omega)
  have er:(goesR l F n0 (n0+1) (startR n0 s)).1=reachS l F n0 s:=rfl
  rw[hFl,er] at keyF
  obtain⟨x,hxd⟩: ∃ x,x=reachS l F n0 s:=⟨_,rfl⟩
  rw[← hxd] at keyF hRI hRD hRB
  have HKF:=Ya keyF
  have HXD:=Ya hxd
  have hFL:=Ya hFl
  clear hok hgk hgp hF hB4 hB9 hB hRt hFl hq hRO keyF er hxd hgt
  have x0:wr.cell? ⟨g4,0,none⟩=some (.int .i64 (n0:Int)):=(Yc B4.out 0).trans rfl
  have x1:wr.cell? ⟨g4,1,none⟩=some (.bool Zb):=(Yc B4.out 1).trans rfl
  have x2:wr.cell? ⟨g4,2,none⟩=some (.slice Ze l.length Zd):=(Yc B4.out 2).trans rfl
  go_upto_region 3 with (first|(go_at_call 97;refine HKF.out.mono ?_;rintro e_ w8 ⟨v0,v1,v2,rfl,r0,r1,r2,hb⟩;obtain⟨A0,c0,ev0⟩:=Kd.R_slice r0;obtain⟨A1,c1,ev1⟩:=Kd.R_slice r1;obtain⟨A2,c2,ev2⟩:=Kd.R_slice r2;subst ev0;subst ev1;subst ev2;rw[hRD] at r0 ⊢;rw[hRI] at r1 ⊢;rw[hRB] at r2 ⊢;have R0:=Ya r0;have R1:=Ya r1;have R2:=Ya r2;have m0_:=Ya (HF.out.below hb);have m1_:=Ya (Yn B4.out hb);have m2_:=Ya (Yn B9.out hb);have hwr8:=hb.size;have m3_:=Ya (Yk HB.out hb);have hgFr:gF<wr.heap.size:=HF.out.lt;have hg9r_:g9<wr.heap.size:=blk_lt B9.out;have hwrw:w.heap.size≤wr.heap.size:=HB.out.size;clear HF B4 B9 HB r0 r1 r2 hb x0 x1 x2 HKF;have HF:=m0_;have B4:=m1_;have B9:=m2_;have HB:=m3_;clear m0_ m1_ m2_ m3_)|fail)
  have hC109:Below w8.heap.size w8 (w8.alloc (.cells #[.slice A0 n0 c0, .slice A1 n0 c1, .slice A2 n0 c2] 109)):=Ye (Yo _ _) _
  have B11:Aside0 ((w8.alloc (.cells #[.slice A0 n0 c0, .slice A1 n0 c1, .slice A2 n0 c2] 109)).heap[w8.heap.size]? =some (.cells #[.slice A0 n0 c0, .slice A1 n0 c1, .slice A2 n0 c2] 109 (0,0))):=⟨heap_alloc_new w8 _⟩
  have hg11:wr.heap.size≤w8.heap.size:=hwr8
  have hg9r:g9<wr.heap.size:=hg9r_
  have hlts:g9<w8.heap.size∧g4<w8.heap.size∧gF<w8.heap.size:=⟨blk_lt B9.out,blk_lt B4.out,HF.out.lt⟩
  have m0_:=Ya (HF.out.below hC109)
  have m1_:=Ya (Yn B4.out hC109)
  have m2_:=Ya (Yn B9.out hC109)
  have m3_:=Ya (Yk HB.out hC109)
  have m4_:=Ya (Ys R0.out hC109)
  have m5_:=Ya (Ys R1.out hC109)
  have m6_:=Ya (Ys R2.out hC109)
  clear HF B4 B9 HB R0 R1 R2 hC109
  have HF:=m0_
  have B4:=m1_
  have B9:=m2_
  have HB:=m3_
  have R0:=m4_
  have R1:=m5_
  have R2:=m6_
  clear m0_ m1_ m2_ m3_ m4_ m5_ m6_ hwr8
  generalize w8.alloc (.cells #[.slice A0 n0 c0, .slice A1 n0 c1, .slice A2 n0 c2] 109)=w9 at *
  generalize w8.heap.size=g11 at *
  have y0:w9.cell? ⟨g11,0,none⟩=some (.slice A0 n0 c0):=(Yc B11.out 0).trans rfl
  have y1:w9.cell? ⟨g11,1,none⟩=some (.slice A1 n0 c1):=(Yc B11.out 1).trans rfl
  have y2:w9.cell? ⟨g11,2,none⟩=some (.slice A2 n0 c2):=(Yc B11.out 2).trans rfl
  have pt:(0:Int)≤(t:Int):=by omega
  have qt:(t:Int)<(n0:Int):=by omega
  obtain⟨ad0,cc0,e0,_,hK0,hc0⟩:=Kd.C_get (Kd.R_reads' R0.out).2.2 0 (t:Int) pt (by rw[hRD];exact qt)
  obtain⟨ad1,cc1,e1,_,hK1,hc1⟩:=Kd.C_get (Kd.R_reads' R1.out).2.2 false (t:Int) pt (by rw[hRI];exact qt)
  subst e0
  subst e1
  have hd:w9.cell? (ad0.add t)=some (.int .i64 (x.D.getD t 0)):=by
   have e:cc0=[.int .i64 (x.D.getD t 0)]:=hK0
   have h_:=hc0 0 (.int .i64 (x.D.getD t 0)) (by rw[e];rfl)
   have e2:(t:Int).toNat * (Kd.int .i64).sz+0=t:=by rw[Int.toNat_natCast];show t * 1+0=t;omega
   rw[e2] at h_
   exact h_
  have hi:w9.cell? (ad1.add t)=some (.bool (x.I.getD t false)):=by
   have e:cc1=[.bool (x.I.getD t false)]:=hK1
   have h_:=hc1 0 (.bool (x.I.getD t false)) (by rw[e];rfl)
   have e2:(t:Int).toNat * Kd.bool.sz+0=t:=by rw[Int.toNat_natCast];show t * 1+0=t;omega
   rw[e2] at h_
   exact h_
  clear hK0 hK1 hc0 hc1
  obtain⟨dt,hdt⟩: ∃ d_,d_=x.D.getD t 0:=⟨_,rfl⟩
  obtain⟨it,hit⟩: ∃ d_,d_=x.I.getD t false:=⟨_,rfl⟩
  rw[← hdt] at hd
  rw[← hit] at hi
  have HDT:=Ya hdt
  have HIT:=Ya hit
  clear hdt hit
  have hNear:nearS l F n0 s t a3↔it=true∧dt≤a3:=by unfold nearS;rw[← HXD.out, ← HDT.out, ← HIT.out]
  by_cases hn:it=true∧dt≤a3
  ·have HN:=Ya (hNear.2 hn)
   obtain⟨hn1,hn2⟩:=hn
   subst hn1
   have t1:(!true)=false:=rfl
   have t2:decide (a3<dt)=false:=Yw (by omega)
   clear hNear
   go_upto_region 5 with fail
   clear hd hi y0 y1 y2
   obtain⟨hTW,hTL⟩:=wayS_ok HRT.out (by rw[← HXD.out];rw[← HXD.out] at HRO;exact HRO.out) ht HN.out.1
   obtain⟨rk,hby⟩:=HRO.out.by_
   rw[← HXD.out] at hby
   have HBY:=Ya hby
   have HXO:Aside0 (x.Ok n0):=⟨by rw[HXD.out];exact HRO.out.ok⟩
   have HIX:Aside0 (x.I.getD t false=true):=⟨HIT.out.symm⟩
   obtain⟨L,hLd⟩: ∃ L_,L_=wayS l F n0 s t:=⟨_,rfl⟩
   have hLx:L=(backB l x s (n0+1) t).reverse:=by rw[hLd,HXD.out];rfl
   rw[← hLd] at hTW hTL
   obtain⟨p1,p2,p3,p4,p5,p6,p7⟩:=push_way HOK.out.flow hst hTW.leads hTW.apart
   obtain⟨so1,so2⟩:=span_near HOK.out hs ht hst HN.out
   have sgo:spanS l n0 s t a3 k (pushW F (leastR l F L) L)=R:=by rw[← HGP.out,spanS_go HN.out, ← hLd]
   rw[← hLd] at so1 so2
   have hLp:0<L.length:=List.length_pos_iff.2 p3
   have hLn:L.length≤50:=by omega
   obtain⟨m,hm⟩: ∃ m_,m_=leastR l F L:=⟨_,rfl⟩
   rw[← hm] at p2 p6 so1 so2 sgo
   have HMM:=Ya hm
   have HP5:=Ya p5
   have HAP:=Ya hTW.apart
   have HSO:=Ya so1
   have HSB:=Ya so2
   have HSG:=Ya sgo
   have HLX:=Ya hLx
   have HRL:Aside0 (∀ e,e∈L→m≤stRoom l F e):=⟨fun e he=>by rw[hm];exact leastR_le he⟩
   clear hTW hTL hby hLd hLx p1 p3 p4 p5 p7 so1 so2 sgo hm
   have x0:w9.cell? ⟨g4,0,none⟩=some (.int .i64 (n0:Int)):=(Yc B4.out 0).trans rfl
   have x1:w9.cell? ⟨g4,1,none⟩=some (.bool Zb):=(Yc B4.out 1).trans rfl
   have x2:w9.cell? ⟨g4,2,none⟩=some (.slice Ze l.length Zd):=(Yc B4.out 2).trans rfl
   go_upto_region 6 with (first|(go_at_call 101;refine(at_calls n0 Zb Ze Zd l (some ⟨gF,0,none⟩) l.length l.length _ (Yt H2.out HB.out) HC2.out (by omega) (by omega) (by omega) (fun k hk=>(HRT.out.ends k hk).1) (fun k hk=>(HRT.out.ends k hk).2)).mono ?_;rintro e_ w10 ⟨vr,rfl,hS,hb⟩;obtain⟨A4,c4,ev⟩:=Kd.S_slice hS;subst ev;rw[rowsAt_len] at hS ⊢;have m0_:=Ya (HF.out.below hb);have m1_:=Ya (Yn B4.out hb);have m2_:=Ya (Yn B9.out hb);have m3_:=Ya (Yk HB.out hb);have m4_:=Ya (Yn B11.out hb);have m5_:=Ya (Ys R2.out hb);clear HF B4 B9 HB B11 R0 R1 R2 hS hb x0 x1 x2;have HF:=m0_;have B4:=m1_;have B9:=m2_;have HB:=m3_;have B11:=m4_;have R2:=m5_;clear m0_ m1_ m2_ m3_ m4_ m5_)|fail)
   have hA:Below w10.heap.size w10 (w10.alloc (.cells #[.int .i64 (n0:Int), .bool Zb, .slice Ze l.length Zd, .slice (some ⟨gF,0,none⟩) l.length l.length, .slice A4 n0 c4] 118)):=Ye (Yo _ _) _
   have B13:Aside0 ((w10.alloc (.cells #[.int .i64 (n0:Int), .bool Zb, .slice Ze l.length Zd, .slice (some ⟨gF,0,none⟩) l.length l.length, .slice A4 n0 c4] 118)).heap[w10.heap.size]? =some (.cells #[.int .i64 (n0:Int), .bool Zb, .slice Ze l.length Zd, .slice (some ⟨gF,0,none⟩) l.length l.length, .slice A4 n0 c4] 118 (0,0))):=⟨heap_alloc_new w10 _⟩
   have hg13:w.heap.size≤w10.heap.size∧gF<w10.heap.size:=⟨HB.out.size,HF.out.lt⟩
   have m0_:=Ya (HF.out.below hA)
   have m1_:=Ya (Yn B4.out hA)
   have m2_:=Ya (Yn B9.out hA)
   have m3_:=Ya (Yk HB.out hA)
   have m4_:=Ya (Yn B11.out hA)
   have m5_:=Ya (Ys R2.out hA)
   clear HF B4 B9 HB B11 R2 hA
   have HF:=m0_
   have B4:=m1_
   have B9:=m2_
   have HB:=m3_
   have B11:=m4_
   have R2:=m5_
   clear m0_ m1_ m2_ m3_ m4_ m5_
   generalize w10.alloc (.cells #[.int .i64 (n0:Int), .bool Zb, .slice Ze l.length Zd, .slice (some ⟨gF,0,none⟩) l.length l.length, .slice A4 n0 c4] 118)=w11 at *
   generalize w10.heap.size=g13 at *
   have u0:w11.cell? ⟨g13,0,none⟩=some (.int .i64 (n0:Int)):=(Yc B13.out 0).trans rfl
   have u1:w11.cell? ⟨g13,1,none⟩=some (.bool Zb):=(Yc B13.out 1).trans rfl
   have u2:w11.cell? ⟨g13,2,none⟩=some (.slice Ze l.length Zd):=(Yc B13.out 2).trans rfl
   have u3:w11.cell? ⟨g13,3,none⟩=some (.slice (some ⟨gF,0,none⟩) l.length l.length):=(Yc B13.out 3).trans rfl
   have u4:w11.cell? ⟨g13,4,none⟩=some (.slice A4 n0 c4):=(Yc B13.out 4).trans rfl
   have y0:w11.cell? ⟨g11,0,none⟩=some (.slice (some ad0) n0 c0):=(Yc B11.out 0).trans rfl
   have y1:w11.cell? ⟨g11,1,none⟩=some (.slice (some ad1) n0 c1):=(Yc B11.out 1).trans rfl
   have y2:w11.cell? ⟨g11,2,none⟩=some (.slice A2 n0 c2):=(Yc B11.out 2).trans rfl
   have HC2B:Aside0 (Kd.C k38 w11 A2 n0 x.B):=⟨by have h_:=(Kd.R_reads' R2.out).2.2;rw[hRB] at h_;exact h_⟩
   have keyW:=fastest_calls n0 Zb Ze Zd l (some ⟨gF,0,none⟩) l.length F A4 c4 (some ad0) c0 (some ad1) c1 A2 c2 x rk s t w11 HRT.out HXO.out HBY.out hs ht hst HIX.out HC2.out (by have:=hFL.out;omega) (Yt H2.out HB.out) (isI_C HF.out (by have:=hFL.out;omega)) HC2B.out
   rw[hFL.out, ← HLX.out] at keyW
   have HKW:=Ya keyW
   clear keyW R2 HC2B
   go_upto_region 7 with (first|(go_at_call 152;refine HKW.out.mono ?_;rintro e_ w12 ⟨vw,rfl,hRv,hb⟩;have m0_:=Ya (HF.out.below hb);have m1_:=Ya (Yn B4.out hb);have m2_:=Ya (Yn B9.out hb);have m3_:=Ya (Yk HB.out hb);have m4_:=Ya (Yn B13.out hb);have hbs:=hb.size;have hw11:w.heap.size≤w11.heap.size:=HB.out.size;have hgF11:gF<w11.heap.size:=HF.out.lt;clear HF B4 B9 HB B11 B13 HKW hb u0 u1 u2 u3 u4 y0 y1 y2;have HF:=m0_;have B4:=m1_;have B9:=m2_;have HB:=m3_;have B13:=m4_;clear m0_ m1_ m2_ m3_ m4_)|fail)
   obtain⟨Aw,cw,ew⟩:=Kd.R_slice hRv
   subst ew
   have hCw:=(Kd.R_reads' hRv).2.2
   have hcw:=(Kd.R_reads' hRv).2.1
   obtain⟨adw,eadw,_⟩:=hCw.2.2 hLp
   subst eadw
   obtain⟨g,eg⟩:=Kd.R_head hRv
   subst eg
   have hgb:w11.heap.size≤g:=Kd.R_base hRv g rfl
   have HWC:Aside0 (∀ (j:Nat) (e:S38),L[j]? =some e→w12.cell? ⟨g,j * 2,none⟩=some (.int .i64 e.f0)∧w12.cell? ⟨g,j * 2+1,none⟩=some (.bool e.f1)):=⟨by
    intro j e hj
    obtain⟨ad,ead,c0,c1⟩:=at_T38 hCw (j:Int) (by omega) (by have:=(List.getElem?_eq_some_iff.1 hj).1;omega)
    injection ead with ead
    subst ead
    have hee:rd_T38 L (j:Int)=e:=by
     unfold rd_T38
     rw[Int.toNat_natCast,List.getD_eq_getElem?_getD,hj]
     rfl
    rw[hee,Int.toNat_natCast,add_at,Nat.zero_add] at c0 c1
    exact⟨c0,c1⟩⟩
   have hgl:g<w12.heap.size:=Kd.R_lt hRv g rfl
   clear hRv hCw
   have u0:w12.cell? ⟨g13,0,none⟩=some (.int .i64 (n0:Int)):=(Yc B13.out 0).trans rfl
   have u1:w12.cell? ⟨g13,1,none⟩=some (.bool Zb):=(Yc B13.out 1).trans rfl
   have u2:w12.cell? ⟨g13,2,none⟩=some (.slice Ze l.length Zd):=(Yc B13.out 2).trans rfl
   have u3:w12.cell? ⟨g13,3,none⟩=some (.slice (some ⟨gF,0,none⟩) l.length l.length):=(Yc B13.out 3).trans rfl
   have keyL:=least_calls n0 Zb Ze Zd l (some ⟨gF,0,none⟩) l.length F g cw L w12 HRT.out HP5.out hLp (by omega) hcw HWC.out HC2.out (by have:=hFL.out;omega) (Yt H2.out HB.out) (isI_C HF.out (by have:=hFL.out;omega))
   rw[hFL.out, ← HMM.out] at keyL
   have HKL:=Ya keyL
   clear keyL
   go_upto_region 8 with (first|(go_at_call 153;refine HKL.out.mono ?_;rintro e_ w13 ⟨rfl,hb⟩;have m0_:=Ya (HF.out.below hb);have m1_:=Ya (Yn B4.out hb);have m2_:=Ya (Yn B9.out hb);have m3_:=Ya (Yk HB.out hb);have m4_:=Ya (Yn B13.out hb);have m5_:Aside0 (∀ (j:Nat) (e:S38),L[j]? =some e→w13.cell? ⟨g,j * 2,none⟩=some (.int .i64 e.f0)∧w13.cell? ⟨g,j * 2+1,none⟩=some (.bool e.f1)):=⟨fun j e hj=>⟨pw_cell_below hb (HWC.out j e hj).1,pw_cell_below hb (HWC.out j e hj).2⟩⟩;have hgl13:g<w13.heap.size:=Nat.lt_of_lt_of_le hgl hb.size;clear HF B4 B9 HB B13 HWC HKL hb u0 u1 u2 u3;have HF:=m0_;have B4:=m1_;have B9:=m2_;have HB:=m3_;have B13:=m4_;have HWC:=m5_;clear m0_ m1_ m2_ m3_ m4_ m5_)|fail)
   go_wp2_with fail
   go_loopw [60] (fun v60 w'=> ∃ j:Nat,j≤L.length∧v60= .int .i64 (j:Int)∧Aside0 (IsI w' gF (pushW F m (L.take j)))∧Aside0 (w'.heap[g4]? =some (.cells #[.int .i64 (n0:Int), .bool Zb, .slice Ze l.length Zd] 24 (0,0)))∧Aside0 (w'.heap[g9]? =some (.cells #[.slice none 0 0, .slice none 0 0, .slice none 0 0] 109 (0,0)))∧Aside0 (w'.heap[g13]? =some (.cells #[.int .i64 (n0:Int), .bool Zb, .slice Ze l.length Zd, .slice (some ⟨gF,0,none⟩) l.length l.length, .slice A4 n0 c4] 118 (0,0)))∧Aside0 (∀ (j:Nat) (e:S38),L[j]? =some e→w'.cell? ⟨g,j * 2,none⟩=some (.int .i64 e.f0)∧w'.cell? ⟨g,j * 2+1,none⟩=some (.bool e.f1))∧Aside0 (g<w'.heap.size)∧Aside0 (Below w.heap.size w w')) (fun v60 _=>L.length - (intOf v60).toNat)
   case atStart=>exact⟨0,by omega,rfl,by rw[List.take_zero];exact HF,B4,B9,B13,HWC,⟨hgl13⟩,HB⟩
   case round=>
    clear HF B4 B9 HB B13 HWC hgl hgl13
    obtain⟨j,hj,rfl,HF,B4,B9,B13,HWC,HGL,HB⟩:=hrel
    by_cases hlt:j<L.length
    ·have e3:decide ((j:Int)<(L.length:Int))=true:=Yv (by omega)
     obtain⟨e,he⟩: ∃ e,L[j]? =some e:=⟨_,List.getElem?_eq_getElem hlt⟩
     obtain⟨c0,c1⟩:=HWC.out j e he
     have hmem:=List.mem_of_getElem? he
     have hso:=HP5.out e hmem
     have hrj:=Right.take (k:=m) (by omega) HRT.out (L:=L) (fun x hx=>⟨HP5.out x hx,HRL.out x hx⟩) HAP.out j
     have hgo:goS (pushW F m (L.take j)) e m=pushW F m (L.take (j+1)):=by rw[take_snoc he,pushW_snoc]
     obtain⟨i,hi,hei⟩:=hso
     have hnj:=hrj.nums i hi
     have hlj:=hrj.len
     obtain⟨Fj,hFj⟩: ∃ F_,F_=pushW F m (L.take j):=⟨_,rfl⟩
     rw[← hFj] at hgo hnj hlj HF
     have HGO:=Ya hgo
     have HNJ:=Ya hnj
     have HLJ:=Ya hlj
     have HEI:=Ya hei
     clear hrj hgo hnj hlj hei hFj he hmem
     have pj:(0:Int)≤(j:Int):=by omega
     have qj:(j:Int)<(L.length:Int):=by omega
     go_upto_region 11 with fail
     have HN:Aside0 ((wr.alloc (.cells #[.int .i64 e.f0, .bool e.f1] 38)).heap[wr.heap.size]? =some (.cells #[.int .i64 e.f0, .bool e.f1] 38 (0,0))):=⟨heap_alloc_new _ _⟩
     have hbA:Below wr.heap.size wr (wr.alloc (.cells #[.int .i64 e.f0, .bool e.f1] 38)):=Ye (Yo _ _) _
     have hszr:w.heap.size≤wr.heap.size:=HB.out.size
     have m0_:=Ya (HF.out.below hbA)
     have m1_:=Ya (Yn B4.out hbA)
     have m2_:=Ya (Yn B9.out hbA)
     have m3_:=Ya (Yn B13.out hbA)
     have m5_:=Ya (Yk HB.out hbA)
     have m4_:Aside0 (∀ (q:Nat) (e_:S38),L[q]? =some e_→(wr.alloc (.cells #[.int .i64 e.f0, .bool e.f1] 38)).cell? ⟨g,q * 2,none⟩=some (.int .i64 e_.f0)∧(wr.alloc (.cells #[.int .i64 e.f0, .bool e.f1] 38)).cell? ⟨g,q * 2+1,none⟩=some (.bool e_.f1)):=⟨fun q e_ hq=>⟨pw_cell_below hbA (HWC.out q e_ hq).1,pw_cell_below hbA (HWC.out q e_ hq).2⟩⟩
     have hlts2:gF<wr.heap.size:=HF.out.lt
     clear HF B4 B9 B13 HB HWC c0 c1 hbA
     have HF:=m0_
     have B4:=m1_
     have B9:=m2_
     have B13:=m3_
     have HWC:=m4_
     have HB:=m5_
     clear m0_ m1_ m2_ m3_ m4_ m5_
     have HGL:=HGL.out
     generalize wr.alloc (.cells #[.int .i64 e.f0, .bool e.f1] 38)=w14 at *
     generalize wr.heap.size=g17 at *
     have u0:w14.cell? ⟨g13,0,none⟩=some (.int .i64 (n0:Int)):=(Yc B13.out 0).trans rfl
     have u1:w14.cell? ⟨g13,1,none⟩=some (.bool Zb):=(Yc B13.out 1).trans rfl
     have u2:w14.cell? ⟨g13,2,none⟩=some (.slice Ze l.length Zd):=(Yc B13.out 2).trans rfl
     have u3:w14.cell? ⟨g13,3,none⟩=some (.slice (some ⟨gF,0,none⟩) l.length l.length):=(Yc B13.out 3).trans rfl
     have b0:w14.cell? ⟨g17,0,none⟩=some (.int .i64 e.f0):=(Yc HN.out 0).trans rfl
     have b1:w14.cell? ⟨g17,1,none⟩=some (.bool e.f1):=(Yc HN.out 1).trans rfl
     have hgw:g<w14.heap.size:=by have:=blk_lt HN.out;omega
     have hlF:i<Fj.length:=by have:=HLJ.out;omega
     have keyG:=go_calls (n0:Int) Zb Ze Zd l gF l.length Fj e m w14 HF.out (i:=i) hlF HEI.out ⟨by omega,by omega⟩ (fun _=>by have:=HNJ.out;omega) (fun _=>by have:=HNJ.out;omega)
     rw[HLJ.out] at keyG
     have HKG:=Ya keyG
     clear keyG
     go_wp2_with (first|(go_at_call 154;refine HKG.out.mono ?_;rintro e_ w15 ⟨rfl,hil,hks⟩;rw[HGO.out] at hil;have m1_:=Ya (hks.blk B4.out (by show ¬ g4=gF;exact hgF.2.1));have m2_:=Ya (hks.blk B9.out (by show ¬ g9=gF;exact hgF.2.2));have m3_:=Ya (hks.blk B13.out (by show ¬ g13=gF;omega));have m4_:Aside0 (∀ (q:Nat) (e_:S38),L[q]? =some e_→w15.cell? ⟨g,q * 2,none⟩=some (.int .i64 e_.f0)∧w15.cell? ⟨g,q * 2+1,none⟩=some (.bool e_.f1)):=⟨fun q e_ hq=>⟨ks_cellF hks (HWC.out q e_ hq).1 (by omega),ks_cellF hks (HWC.out q e_ hq).2 (by omega)⟩⟩;have m5_:=Ya (hks.toBelow HB.out HB.out.size (fun b hb=>by have hb:b=gF:=hb;omega));have hgw2:g<w15.heap.size:=Nat.lt_of_lt_of_le hgw hks.size;clear HF B4 B9 B13 HB HWC HN HKG hks u0 u1 u2 u3 b0 b1)|fail)
     go_roundw
     case rel=>exact⟨j+1,by omega,by go_num,⟨hil⟩,m1_,m2_,m3_,m4_,⟨hgw2⟩,m5_⟩
     case measure=>simp[intOf];omega
    ·have e3:decide ((j:Int)<(L.length:Int))=false:=Yw (by omega)
     have htk:L.take j=L:=List.take_of_length_le (by omega)
     rw[htk] at HF
     have hSs:Ss n0 l s t a3 R gF g4 g9 Zb Ze Zd w wr k:=⟨pushW F m L,HSO.out,by have:=HSB.out;have:=HGK.out;omega,HSG.out,HF.out,B4.out,B9.out,HB.out⟩
     go_wp2_with fail
     go_roundw
     case rel=>exact⟨k,hSs⟩
     case measure=>exact least_lt hSs (by rw[← HLE.out];exact Nat.lt_succ_self k)
  ·have HN:Aside0 (¬ nearS l F n0 s t a3):=⟨fun h=>hn (hNear.1 h)⟩
   have HE:Aside0 (F=R):=⟨by rw[← HGP.out,spanS_end HN.out]⟩
   have z0:w9.cell? ⟨g9,0,none⟩=some (.slice none 0 0):=(Yc B9.out 0).trans rfl
   have z1:w9.cell? ⟨g9,1,none⟩=some (.slice none 0 0):=(Yc B9.out 1).trans rfl
   have z2:w9.cell? ⟨g9,2,none⟩=some (.slice none 0 0):=(Yc B9.out 2).trans rfl
   have f0:=Yf B9.out 0
   have f1:=Yf B9.out 1
   have f2:=Yf B9.out 2
   cases it with
   |false=>
    have t1:(!false)=true:=rfl
    go_upto_region 4 with fail
    have hne:g9≠g11:=by omega
    go_region_held3 (fun w'=>w'.cell? ⟨g11,0,none⟩=some (.slice (some ad0) n0 c0)∧w'.cell? ⟨g11,1,none⟩=some (.slice (some ad1) n0 c1)∧w'.cell? ⟨g11,2,none⟩=some (.slice A2 n0 c2))
     (first|((try dsimp only);(refine⟨?_,?_,?_⟩)<;>first|(exact pw_cell_below (below_drew (Yo _ _)) (by assumption))|go_keep)|go_keep)
     (first|fail)
    clear y0 y1 y2 z0 z1 z2 f0 f1 f2 hd hi
    have hBZ:Below w.heap.size w (((w9.setCell ⟨g9,0,none⟩ (.slice (some ad0) n0 c0)).setCell ⟨g9,1,none⟩ (.slice (some ad1) n0 c1)).setCell ⟨g9,2,none⟩ (.slice A2 n0 c2)).drew:=below_drew (Yh (Yh (Yh HB.out hg9w) hg9w) hg9w)
    have hsame: ∀ k,k≠g9→(((w9.setCell ⟨g9,0,none⟩ (.slice (some ad0) n0 c0)).setCell ⟨g9,1,none⟩ (.slice (some ad1) n0 c1)).setCell ⟨g9,2,none⟩ (.slice A2 n0 c2)).drew.heap[k]? =w9.heap[k]? :=fun k hk=>((Below.heap_setCell _ ⟨g9,2,none⟩ _ k hk).trans (Below.heap_setCell _ ⟨g9,1,none⟩ _ k hk)).trans (Below.heap_setCell _ ⟨g9,0,none⟩ _ k hk)
    obtain⟨wz,hwz⟩: ∃ W,W=(((w9.setCell ⟨g9,0,none⟩ (.slice (some ad0) n0 c0)).setCell ⟨g9,1,none⟩ (.slice (some ad1) n0 c1)).setCell ⟨g9,2,none⟩ (.slice A2 n0 c2)).drew:=⟨_,rfl⟩
    rw[← hwz] at hBZ hsame
    have hRF0:=(HF.out.same (hsame gF (Ne.symm hgF.2.2))).R (base:=w.heap.size) (ok:=fun k_=>some k_≠(Value.slice (some ad0) n0 c0).ownBlock) (by have:=hFL.out;omega) hgF.1 (fun h=>by have:=Kd.R_base R0.out gF h.symm;omega)
    rw[hFL.out] at hRF0
    have hRF:Kd.R (Kd.int .i64) 3 wz w.heap.size (fun k_=>some k_≠(Value.slice (some ad0) n0 c0).ownBlock) (.slice (some ⟨gF,0,none⟩) l.length l.length) R:=by rw[← HE.out];exact hRF0
    have hR0:Kd.R (Kd.int .i64) 3 wz w.heap.size (fun k_=>some k_≠(Value.slice (some ⟨gF,0,none⟩) l.length l.length).ownBlock) (.slice (some ad0) n0 c0) (reachS l R n0 s).D:=by
     rw[← HE.out, ← HXD.out]
     exact Kd.R_mono (Kd.R_lower (Kd.R_move (Kd.R_bound R0.out) (fun k hk=>hsame k (by have:=hk.2.1;omega))) hwrw) (fun k hk=>by have:=hk.2.1;simp[Value.ownBlock];omega)
    have hR1:Kd.R Kd.bool 4 wz w.heap.size (fun _=>True) (.slice (some ad1) n0 c1) (reachS l R n0 s).I:=by
     rw[← HE.out, ← HXD.out]
     exact Kd.R_mono (Kd.R_lower (Kd.R_move (Kd.R_bound R1.out) (fun k hk=>hsame k (by have:=hk.2.1;omega))) hwrw) (fun _ _=>trivial)
    have hR2:Kd.R k38 38 wz w.heap.size (fun _=>True) (.slice A2 n0 c2) (reachS l R n0 s).B:=by
     rw[← HE.out, ← HXD.out]
     exact Kd.R_mono (Kd.R_lower (Kd.R_move (Kd.R_bound R2.out) (fun k hk=>hsame k (by have:=hk.2.1;omega))) hwrw) (fun _ _=>trivial)
    rw[hwz] at hBZ hRF hR0 hR1 hR2
    clear hwz hsame hRF0
    go_wp2_with fail
    (try rw[Exit.noGoto_ret]);refine bodyPost_ret (results_tc rfl _ _ g9 109 #[.slice (some ad0) n0 c0, .slice (some ad1) n0 c1, .slice A2 n0 c2] (0,0) _ rfl (Ym (YA (cs:= #[.slice (some ad0) n0 c0, .slice (some ad1) n0 c1, .slice none 0 0]) (YA (cs:= #[.slice (some ad0) n0 c0, .slice none 0 0, .slice none 0 0]) (YA (cs:= #[.slice none 0 0, .slice none 0 0, .slice none 0 0]) B9.out 0 _ rfl) 1 _ rfl) 2 _ rfl)) Try.underlying109 rfl (by kernel_rfl)) rfl ?_;exact⟨.slice (some ⟨gF,0,none⟩) l.length l.length,_,_,_,rfl,hRF,hR0,hR1,hR2,hBZ⟩
   |true=>
    have t1:(!true)=false:=rfl
    have t2:decide (a3<dt)=true:=Yv (Int.not_le.1 (fun h=>hn ⟨rfl,h⟩))
    go_upto_region 4 with fail
    have hne:g9≠g11:=by omega
    go_region_held3 (fun w'=>w'.cell? ⟨g11,0,none⟩=some (.slice (some ad0) n0 c0)∧w'.cell? ⟨g11,1,none⟩=some (.slice (some ad1) n0 c1)∧w'.cell? ⟨g11,2,none⟩=some (.slice A2 n0 c2))
     (first|((try dsimp only);(refine⟨?_,?_,?_⟩)<;>first|(exact pw_cell_below (below_drew (Yo _ _)) (by assumption))|go_keep)|go_keep)
     (first|fail)
    clear y0 y1 y2 z0 z1 z2 f0 f1 f2 hd hi
    have hBZ:Below w.heap.size w (((w9.setCell ⟨g9,0,none⟩ (.slice (some ad0) n0 c0)).setCell ⟨g9,1,none⟩ (.slice (some ad1) n0 c1)).setCell ⟨g9,2,none⟩ (.slice A2 n0 c2)).drew:=below_drew (Yh (Yh (Yh HB.out hg9w) hg9w) hg9w)
    have hsame: ∀ k,k≠g9→(((w9.setCell ⟨g9,0,none⟩ (.slice (some ad0) n0 c0)).setCell ⟨g9,1,none⟩ (.slice (some ad1) n0 c1)).setCell ⟨g9,2,none⟩ (.slice A2 n0 c2)).drew.heap[k]? =w9.heap[k]? :=fun k hk=>((Below.heap_setCell _ ⟨g9,2,none⟩ _ k hk).trans (Below.heap_setCell _ ⟨g9,1,none⟩ _ k hk)).trans (Below.heap_setCell _ ⟨g9,0,none⟩ _ k hk)
    obtain⟨wz,hwz⟩: ∃ W,W=(((w9.setCell ⟨g9,0,none⟩ (.slice (some ad0) n0 c0)).setCell ⟨g9,1,none⟩ (.slice (some ad1) n0 c1)).setCell ⟨g9,2,none⟩ (.slice A2 n0 c2)).drew:=⟨_,rfl⟩
    rw[← hwz] at hBZ hsame
    have hRF0:=(HF.out.same (hsame gF (Ne.symm hgF.2.2))).R (base:=w.heap.size) (ok:=fun k_=>some k_≠(Value.slice (some ad0) n0 c0).ownBlock) (by have:=hFL.out;omega) hgF.1 (fun h=>by have:=Kd.R_base R0.out gF h.symm;omega)
    rw[hFL.out] at hRF0
    have hRF:Kd.R (Kd.int .i64) 3 wz w.heap.size (fun k_=>some k_≠(Value.slice (some ad0) n0 c0).ownBlock) (.slice (some ⟨gF,0,none⟩) l.length l.length) R:=by rw[← HE.out];exact hRF0
    have hR0:Kd.R (Kd.int .i64) 3 wz w.heap.size (fun k_=>some k_≠(Value.slice (some ⟨gF,0,none⟩) l.length l.length).ownBlock) (.slice (some ad0) n0 c0) (reachS l R n0 s).D:=by
     rw[← HE.out, ← HXD.out]
     exact Kd.R_mono (Kd.R_lower (Kd.R_move (Kd.R_bound R0.out) (fun k hk=>hsame k (by have:=hk.2.1;omega))) hwrw) (fun k hk=>by have:=hk.2.1;simp[Value.ownBlock];omega)
    have hR1:Kd.R Kd.bool 4 wz w.heap.size (fun _=>True) (.slice (some ad1) n0 c1) (reachS l R n0 s).I:=by
     rw[← HE.out, ← HXD.out]
     exact Kd.R_mono (Kd.R_lower (Kd.R_move (Kd.R_bound R1.out) (fun k hk=>hsame k (by have:=hk.2.1;omega))) hwrw) (fun _ _=>trivial)
    have hR2:Kd.R k38 38 wz w.heap.size (fun _=>True) (.slice A2 n0 c2) (reachS l R n0 s).B:=by
     rw[← HE.out, ← HXD.out]
     exact Kd.R_mono (Kd.R_lower (Kd.R_move (Kd.R_bound R2.out) (fun k hk=>hsame k (by have:=hk.2.1;omega))) hwrw) (fun _ _=>trivial)
    rw[hwz] at hBZ hRF hR0 hR1 hR2
    clear hwz hsame hRF0
    go_wp2_with fail
    (try rw[Exit.noGoto_ret]);refine bodyPost_ret (results_tc rfl _ _ g9 109 #[.slice (some ad0) n0 c0, .slice (some ad1) n0 c1, .slice A2 n0 c2] (0,0) _ rfl (Ym (YA (cs:= #[.slice (some ad0) n0 c0, .slice (some ad1) n0 c1, .slice none 0 0]) (YA (cs:= #[.slice (some ad0) n0 c0, .slice none 0 0, .slice none 0 0]) (YA (cs:= #[.slice none 0 0, .slice none 0 0, .slice none 0 0]) B9.out 0 _ rfl) 1 _ rfl) 2 _ rfl)) Try.underlying109 rfl (by kernel_rfl)) rfl ?_;exact⟨.slice (some ⟨gF,0,none⟩) l.length l.length,_,_,_,rfl,hRF,hR0,hR1,hR2,hBZ⟩
theorem span_Fill_calls (Zc:Int) (Zb:Bool) (Ze:Option Addr) (Zd:Nat) (Za:List S74) (a1:Int) (a2:Int) (a3:Int) (r1:List Int) (r2:List Int) (r3:List Bool) (r4:List S38) (w:World) (Zq:Kd.C k74 w Ze Za.length Za) (Zr:Za.length≤Zd) (h:(if endsErr Zc Za a1 a2=0∧0≤a3 then some (fillRes Za Zc.toNat a1.toNat a2.toNat a3) else none)=some (r1,r2,r3,r4)):
  Calls Try.prog 118 #[.agg #[.int .i64 Zc, .bool Zb, .slice Ze Za.length Zd], .int .i64 a1, .int .i64 a2, .int .i64 a3] w fun e w'=> ∃ v0_ v1_ v2_ v3_:Value,e= .returned (.tuple #[v0_, .agg #[v1_,v2_,v3_]])∧Kd.R (Kd.int .i64) 3 w' w.heap.size (fun k_=>some k_≠(v1_:Value).ownBlock) v0_ r1∧Kd.R (Kd.int .i64) 3 w' w.heap.size (fun k_=>some k_≠(v0_:Value).ownBlock) v1_ r2∧Kd.R Kd.bool 4 w' w.heap.size (fun _=>True) v2_ r3∧Kd.R k38 38 w' w.heap.size (fun _=>True) v3_ r4∧Below w.heap.size w w':=by
 by_cases he:endsErr Zc Za a1 a2=0∧0≤a3
 ·rw[Yx he] at h
  obtain⟨n0,s0,t0,rfl,rfl,rfl,hs,ht,hst,hn,hr⟩:=ends_zero he.1
  simp only[Int.toNat_natCast] at h
  injection h with h
  unfold fillRes at h
  injection h with h1 h
  injection h with h2 h
  injection h with h3 h4
  subst h1
  subst h2
  subst h3
  subst h4
  exact fill_core n0 Zb Ze Zd Za s0 t0 a3 w hr hs ht hst he.2 Zq Zr
 ·rw[Yy he] at h;cases h
end H
namespace P
attribute [local go_sem] max2_int min2_int max_two min_two max_three min_three max_four min_four
def span_Fill.f (Zc:Int) (Zb:Bool) (Za:List (S74)) (a1:Int) (a2:Int) (a3:Int):Option (List Int × List Int × List Bool × (List (S38))):=(if H.endsErr Zc Za a1 a2=0∧0≤a3 then some (H.fillRes Za Zc.toNat a1.toNat a2.toNat a3) else none)
theorem span_Fill.calls (Zc:Int) (Zb:Bool) (Ze:Option Addr) (Zd:Nat) (Za:List (S74)) (a1:Int) (a2:Int) (a3:Int) (r1:List Int) (r2:List Int) (r3:List Bool) (r4:List (S38)) (w:World) (Zq:Kd.C k74 w Ze Za.length Za) (Zr:Za.length≤Zd) (h:span_Fill.f Zc Zb Za a1 a2 a3=some (r1,r2,r3,r4)):
  Calls Try.prog 118 #[.agg #[.int .i64 Zc, .bool Zb, .slice Ze Za.length Zd], .int .i64 a1, .int .i64 a2, .int .i64 a3] w fun e w'=> ∃ v0_ v1_ v2_ v3_:Value,e= .returned (.tuple #[v0_, .agg #[v1_,v2_,v3_]])∧Kd.R (Kd.int .i64) 3 w' w.heap.size (fun k_=>some k_≠(v1_:Value).ownBlock) v0_ r1∧Kd.R (Kd.int .i64) 3 w' w.heap.size (fun k_=>some k_≠(v0_:Value).ownBlock) v1_ r2∧Kd.R Kd.bool 4 w' w.heap.size (fun _=>True) v2_ r3∧Kd.R k38 38 w' w.heap.size (fun _=>True) v3_ r4∧Below w.heap.size w w':=H.span_Fill_calls Zc Zb Ze Zd Za a1 a2 a3 r1 r2 r3 r4 w Zq Zr h
end P
namespace P
attribute [local go_sem] max2_int min2_int max_two min_two max_three min_three max_four min_four
def maxflow_Value.l0:Nat→Int→List Int→Int→List (S74)→Int→Int→Option (Int)
 |0,_,_,_,_,_,_=>none
 |k+1,x1,x2,x7,x11,x12,x13=>if x13<x12 then(if 0≤x13 then(if x13<(x11.length:Int) then(if ((rd_T74 x11 x13).f0)=x1 then(if x13<(x2.length:Int) then(if ((rd_T74 x11 x13).f1)=x1 then(maxflow_Value.l0 k x1 x2 (wrap64 ((wrap64 (x7+(rd x2 x13))) - (rd x2 x13))) x11 x12 (wrap64 (x13+1))) else(maxflow_Value.l0 k x1 x2 (wrap64 (x7+(rd x2 x13))) x11 x12 (wrap64 (x13+1)))) else(none)) else(if ((rd_T74 x11 x13).f1)=x1 then(if x13<(x2.length:Int) then(maxflow_Value.l0 k x1 x2 (wrap64 (x7 - (rd x2 x13))) x11 x12 (wrap64 (x13+1))) else(none)) else(maxflow_Value.l0 k x1 x2 x7 x11 x12 (wrap64 (x13+1))))) else(none)) else(none)) else(some x7)
def maxflow_Value.f (k:Nat) (Zc:Int) (Zb:Bool) (Za:List (S74)) (a1:Int) (l2:List Int):Option (Int):=maxflow_Value.l0 k a1 l2 0 Za (Za.length:Int) 0
set_option maxHeartbeats 8000000 in
set_option maxRecDepth 100000 in
theorem maxflow_Value.calls (k:Nat) (Zc:Int) (Zb:Bool) (Ze:Option Addr) (Zd:Nat) (Za:List (S74)) (a1:Int) (A2:Option Addr) (c2:Nat) (l2:List Int) (r:Int) (w:World) (Zq:Kd.C k74 w Ze Za.length Za) (Zr:Za.length≤Zd) (hr2:Kd.C (Kd.int .i64) w A2 l2.length l2) (hc2:l2.length≤c2) (h:maxflow_Value.f k Zc Zb Za a1 l2=some r):
  Calls Try.prog 119 #[.agg #[.int .i64 Zc, .bool Zb, .slice Ze Za.length Zd], .int .i64 a1, .slice A2 l2.length c2] w fun e w'=>e= .returned (.int .i64 r)∧Below w.heap.size w w':=by
 have hu24:=Try.underlying24
 have hu74:=Try.underlying74
 have Zl:=Ya Zq
 have Xd:=Ya Zr
 clear Zq Zr
 have HR2:=Ya hr2
 have HC2:=Ya hc2
 clear hr2 hc2
 have HB:=Ya (Yo w.heap.size w)
 have H:(maxflow_Value.l0 k a1 l2 0 Za (Za.length:Int) 0)=some r:=h
 clear h
 have H':=Ya H
 clear H
 go_enter Try.func119,Try.ntmps119
 go_wp2_with (first|((with_reducible refine gate_dst (N:=3) rfl ?_);refine Yz ?hg (N:=3) ?hd (cs:= #[.int .i64 Zc, .bool Zb, .slice Ze Za.length Zd]) (t:=24) ?hr ?_;(case hd=>rfl);(case hg=>rfl);(case hr=>first|(go_simp;done)|(go_simp;rfl));intro Vj hg w4 Zf hb;have n0_:=Ya (Yk (by repeat(first|(with_reducible first|exact HB.out|apply Ye|apply Yd|apply Yg)|exact HB.out)) hb);have n1_:=Ya (Zf);have n2_:=Ya ((by rw[hg];exact(Yi (by repeat(first|(with_reducible first|exact HB.out|apply Ye|apply Yd|apply Yg)|exact HB.out))):w.heap.size≤Vj));have n3_:=Ya ((by rw[hg];exact(Yi (by repeat(first|(with_reducible first|exact HB.out|apply Ye|apply Yd|apply Yg)|exact HB.out))):w.heap.size≤Vj));clear HB;have HB:=n0_;have Wr:=n1_;have GW758:=n2_;have Ux:=n3_;clear n0_ n1_ n2_ n3_;clear hb Zf hg;have hcz5_0:w4.cell? ⟨Vj,0,none⟩=some (.int .i64 Zc):=(Yc Wr.out 0).trans rfl;have hcz5_1:w4.cell? ⟨Vj,1,none⟩=some (.bool Zb):=(Yc Wr.out 1).trans rfl;have hcz5_2:w4.cell? ⟨Vj,2,none⟩=some (.slice Ze Za.length Zd):=(Yc Wr.out 2).trans rfl;have hfz5_0:=Yf Wr.out 0;have hfz5_1:=Yf Wr.out 1;have hfz5_2:=Yf Wr.out 2))
 go_loopg [7,13] k (fun kq v7 v13 w'=> ∃ (Uf:Int) (Zt:Int),v7= .int .i64 Uf∧v13= .int .i64 Zt∧Aside0 (maxflow_Value.l0 kq a1 l2 Uf Za (Za.length:Int) Zt=some r)∧Aside0 (kq≤k)∧Aside0 (w'.heap[Vj]? =some (.cells #[.int .i64 Zc, .bool Zb,(.slice Ze Za.length Zd)] 24 (0,0)))∧Aside0 (Below w.heap.size w w'))
 case atStart=>exact⟨(0),(0),(by first|rfl|(simp;done)|(simp[*];done)),(by first|rfl|(simp;done)|(simp[*];done)),H',⟨Nat.le_refl _⟩,⟨by(with_reducible repeat(first|refine Yl ?_ _|refine Ym ?_|refine Yj ?_ _));exact Wr.out⟩,⟨by repeat(first|(with_reducible first|exact HB.out|apply Ye|apply Yd|apply Yg|refine Yh ?_ Ux.out)|exact HB.out)⟩⟩
 case round=>
  clear H'
  try clear c1
  try clear c2
  try clear p2
  try clear hcz5_0
  try clear hcz5_1
  try clear hcz5_2
  try clear hfz5_0
  try clear hfz5_1
  try clear hfz5_2
  obtain⟨Uf,Zt,rfl,rfl,HA,HK1,Wr,HB⟩:=hrel
  cases gk with
  |zero=>exact absurd HA.out (by simp[maxflow_Value.l0])
  |succ k1=>
   have H:=HA.out
   clear HA
   simp only[maxflow_Value.l0] at H
   by_cases c6:Zt<(Za.length:Int)
   rotate_left
   ·rw[Yy c6] at H
    have c6b0:decide (Zt<(Za.length:Int))=false:=Yw c6
    clear c6
    obtain rfl:=Option.some.inj H
    go_wp2
    go_ret
    exact⟨by first|rfl|(simp[errW_none,errW_some]<;>rfl)|(simp[*,errW_none,errW_some]<;>rfl),by repeat(first|(with_reducible first|exact HB.out|apply Ye|apply Yd|apply Yg|refine Yh ?_ Ux.out)|exact HB.out)⟩
   rw[Yx c6] at H
   have c6b0:decide (Zt<(Za.length:Int))=true:=Yv c6
   clear c6
   by_cases c7:0≤Zt
   rotate_left
   ·rw[Yy c7] at H
    exact absurd H (by simp)
   rw[Yx c7] at H
   have c7b0:decide (0≤Zt)=true:=Yv c7
   clear c7
   by_cases c8:Zt<(Za.length:Int)
   rotate_left
   ·rw[Yy c8] at H
    exact absurd H (by simp)
   rw[Yx c8] at H
   have c8b0:decide (Zt<(Za.length:Int))=true:=Yv c8
   clear c8
   by_cases c9:((rd_T74 Za Zt).f0)=a1
   rotate_left
   ·rw[Yy c9] at H
    have c9b0:(((rd_T74 Za Zt).f0) == a1)=false:=beq_eq_false_iff_ne.mpr c9
    have c9b1:(((rd_T74 Za Zt).f0) != a1)=true:=bne_iff_ne.mpr c9
    by_cases c18:((rd_T74 Za Zt).f1)=a1
    rotate_left
    ·rw[Yy c18] at H
     have c18b0:(((rd_T74 Za Zt).f1) == a1)=false:=beq_eq_false_iff_ne.mpr c18
     have c18b1:(((rd_T74 Za Zt).f1) != a1)=true:=bne_iff_ne.mpr c18
     have H':=Ya H
     clear H
     have p759:0≤(Zt:Int):=Yu (by first|(with_reducible assumption)|assumption)
     have q759:Zt<(Za.length:Int):=Yu (by first|(with_reducible assumption)|assumption)
     obtain⟨Jw,e759,Vk,Vl,Vm,Vn⟩:=at_T74 Zl.out Zt p759 q759
     cases e759
     replace Vk:=(HB.out.cell (Yb w _ Vk)).trans Vk
     replace Vl:=(HB.out.cell (Yb w _ Vl)).trans Vl
     replace Vm:=(HB.out.cell (Yb w _ Vm)).trans Vm
     replace Vn:=(HB.out.cell (Yb w _ Vn)).trans Vn
     replace p759:=eq_true p759
     replace q759:=eq_true q759
     go_wp2_with (first|((with_reducible refine gate_dst (N:=9) rfl ?_);refine Yz ?hg (N:=9) ?hd (cs:= #[.int .i64 0, .int .i64 0, .int .i64 0, .int .i64 0]) (t:=74) ?hr ?_;(case hd=>rfl);(case hg=>rfl);(case hr=>first|(go_simp;done)|(go_simp;rfl));intro Zz hg w23 Zf hb;have n0_:=Ya (Yn (g:=Vj) (o:= .cells #[.int .i64 Zc, .bool Zb, .slice (some Jw) Za.length Zd] 24 (0,0)) (by(with_reducible repeat(first|refine Yl ?_ _|refine Ym ?_|refine Yj ?_ _));exact Wr.out) hb);have n1_:=Ya (Yk (by repeat(first|(with_reducible first|exact HB.out|apply Ye|apply Yd|apply Yg|refine Yh ?_ Ux.out)|exact HB.out)) hb);have n2_:=Ya (Zf);have n3_:=Ya ((by rw[hg];exact(Yi (by repeat(first|(with_reducible first|exact HB.out|apply Ye|apply Yd|apply Yg|refine Yh ?_ Ux.out)|exact HB.out))):w.heap.size≤Zz));have n4_:=Ya ((by rw[hg];exact(Yi (by repeat(first|(with_reducible first|exact HB.out|apply Ye|apply Yd|apply Yg|refine Yh ?_ Ux.out)|exact HB.out))):w.heap.size≤Zz));have n5_:=Ya ((by rw[hg];exact Nat.ne_of_lt (blk_lt (g:=Vj) (o:= .cells #[.int .i64 Zc, .bool Zb, .slice (some Jw) Za.length Zd] 24 (0,0)) (by(with_reducible repeat(first|refine Yl ?_ _|refine Ym ?_|refine Yj ?_ _));exact Wr.out)):Vj≠Zz));have n6_:=Ya ((by rw[hg];exact Nat.ne_of_gt (blk_lt (g:=Vj) (o:= .cells #[.int .i64 Zc, .bool Zb, .slice (some Jw) Za.length Zd] 24 (0,0)) (by(with_reducible repeat(first|refine Yl ?_ _|refine Ym ?_|refine Yj ?_ _));exact Wr.out)):Zz≠Vj));clear Wr;clear HB;have Wr:=n0_;have HB:=n1_;have Wk:=n2_;have Uw:=n3_;have GE760:=n4_;have Xj:=n5_;have Uy:=n6_;clear n0_ n1_ n2_ n3_ n4_ n5_ n6_;clear hb Zf hg;have hnb24:=Uy.out;have hnc24:=Xj.out;have hcz25_0:w23.cell? ⟨Zz,0,none⟩=some (.int .i64 0):=(Yc Wk.out 0).trans rfl;have hcz25_1:w23.cell? ⟨Zz,1,none⟩=some (.int .i64 0):=(Yc Wk.out 1).trans rfl;have hcz25_2:w23.cell? ⟨Zz,2,none⟩=some (.int .i64 0):=(Yc Wk.out 2).trans rfl;have hcz25_3:w23.cell? ⟨Zz,3,none⟩=some (.int .i64 0):=(Yc Wk.out 3).trans rfl;have hfz25_0:=Yf Wk.out 0;have hfz25_1:=Yf Wk.out 1;have hfz25_2:=Yf Wk.out 2;have hfz25_3:=Yf Wk.out 3))
     go_roundg k1
     case measure=>have:=HK1.out;omega
     case rel=>exact⟨(Uf),(wrap64 (Zt+1)),(by first|rfl|(simp;done)|(simp[*];done)),(by first|rfl|(simp;done)|(simp[*];done)),H',⟨by have:=HK1.out;omega⟩,⟨by(with_reducible repeat(first|refine Yl ?_ _|refine Ym ?_|refine Yj ?_ _));refine blk_far ?_ Xj.out _;(with_reducible repeat(first|refine Yl ?_ _|refine Ym ?_|refine Yj ?_ _));refine blk_far ?_ Xj.out _;(with_reducible repeat(first|refine Yl ?_ _|refine Ym ?_|refine Yj ?_ _));refine blk_far ?_ Xj.out _;(with_reducible repeat(first|refine Yl ?_ _|refine Ym ?_|refine Yj ?_ _));refine blk_far ?_ Xj.out _;(with_reducible repeat(first|refine Yl ?_ _|refine Ym ?_|refine Yj ?_ _));exact Wr.out⟩,⟨by repeat(first|(with_reducible first|exact HB.out|apply Ye|apply Yd|apply Yg|refine Yh ?_ Ux.out|refine Yh ?_ GE760.out)|exact HB.out)⟩⟩
    rw[Yx c18] at H
    have c18b0:(((rd_T74 Za Zt).f1) == a1)=true:=beq_iff_eq.mpr c18
    have c18b1:(((rd_T74 Za Zt).f1) != a1)=false:=bne_eq_false_iff_eq.mpr c18
    clear c18
    by_cases c19:Zt<(l2.length:Int)
    rotate_left
    ·rw[Yy c19] at H
     exact absurd H (by simp)
    rw[Yx c19] at H
    have c19b0:decide (Zt<(l2.length:Int))=true:=Yv c19
    clear c19
    have H':=Ya H
    clear H
    have p759:0≤(Zt:Int):=Yu (by first|(with_reducible assumption)|assumption)
    have q759:Zt<(Za.length:Int):=Yu (by first|(with_reducible assumption)|assumption)
    obtain⟨Jw,e759,Vk,Vl,Vm,Vn⟩:=at_T74 Zl.out Zt p759 q759
    cases e759
    replace Vk:=(HB.out.cell (Yb w _ Vk)).trans Vk
    replace Vl:=(HB.out.cell (Yb w _ Vl)).trans Vl
    replace Vm:=(HB.out.cell (Yb w _ Vm)).trans Vm
    replace Vn:=(HB.out.cell (Yb w _ Vn)).trans Vn
    replace p759:=eq_true p759
    replace q759:=eq_true q759
    go_wp2_with (first|((with_reducible refine gate_dst (N:=9) rfl ?_);refine Yz ?hg (N:=9) ?hd (cs:= #[.int .i64 0, .int .i64 0, .int .i64 0, .int .i64 0]) (t:=74) ?hr ?_;(case hd=>rfl);(case hg=>rfl);(case hr=>first|(go_simp;done)|(go_simp;rfl));intro Zz hg w20 Zf hb;have n0_:=Ya (Yn (g:=Vj) (o:= .cells #[.int .i64 Zc, .bool Zb, .slice (some Jw) Za.length Zd] 24 (0,0)) (by(with_reducible repeat(first|refine Yl ?_ _|refine Ym ?_|refine Yj ?_ _));exact Wr.out) hb);have n1_:=Ya (Yk (by repeat(first|(with_reducible first|exact HB.out|apply Ye|apply Yd|apply Yg|refine Yh ?_ Ux.out)|exact HB.out)) hb);have n2_:=Ya (Zf);have n3_:=Ya ((by rw[hg];exact(Yi (by repeat(first|(with_reducible first|exact HB.out|apply Ye|apply Yd|apply Yg|refine Yh ?_ Ux.out)|exact HB.out))):w.heap.size≤Zz));have n4_:=Ya ((by rw[hg];exact(Yi (by repeat(first|(with_reducible first|exact HB.out|apply Ye|apply Yd|apply Yg|refine Yh ?_ Ux.out)|exact HB.out))):w.heap.size≤Zz));have n5_:=Ya ((by rw[hg];exact Nat.ne_of_lt (blk_lt (g:=Vj) (o:= .cells #[.int .i64 Zc, .bool Zb, .slice (some Jw) Za.length Zd] 24 (0,0)) (by(with_reducible repeat(first|refine Yl ?_ _|refine Ym ?_|refine Yj ?_ _));exact Wr.out)):Vj≠Zz));have n6_:=Ya ((by rw[hg];exact Nat.ne_of_gt (blk_lt (g:=Vj) (o:= .cells #[.int .i64 Zc, .bool Zb, .slice (some Jw) Za.length Zd] 24 (0,0)) (by(with_reducible repeat(first|refine Yl ?_ _|refine Ym ?_|refine Yj ?_ _));exact Wr.out)):Zz≠Vj));clear Wr;clear HB;have Wr:=n0_;have HB:=n1_;have Wk:=n2_;have Uw:=n3_;have GE760:=n4_;have Xj:=n5_;have Uy:=n6_;clear n0_ n1_ n2_ n3_ n4_ n5_ n6_;clear hb Zf hg;have hnb21:=Uy.out;have hnc21:=Xj.out;have hcz22_0:w20.cell? ⟨Zz,0,none⟩=some (.int .i64 0):=(Yc Wk.out 0).trans rfl;have hcz22_1:w20.cell? ⟨Zz,1,none⟩=some (.int .i64 0):=(Yc Wk.out 1).trans rfl;have hcz22_2:w20.cell? ⟨Zz,2,none⟩=some (.int .i64 0):=(Yc Wk.out 2).trans rfl;have hcz22_3:w20.cell? ⟨Zz,3,none⟩=some (.int .i64 0):=(Yc Wk.out 3).trans rfl;have hfz22_0:=Yf Wk.out 0;have hfz22_1:=Yf Wk.out 1;have hfz22_2:=Yf Wk.out 2;have hfz22_3:=Yf Wk.out 3;have p763:0≤(Zt:Int):=Yu (by first|(with_reducible assumption)|assumption);have q763:Zt<(l2.length:Int):=Yu (by first|(with_reducible assumption)|assumption);obtain⟨ad763,e763,Vo⟩:=Kd.at_int HR2.out Zt p763 q763;cases e763;have hn763_0:ad763.block≠Zz:=Nat.ne_of_lt (Nat.lt_of_lt_of_le (by have:=Yb _ _ Vo;first|rwa [add_block] at this|exact this) Uw.out);have hn763_1:ad763.block≠Zz:=Nat.ne_of_lt (Nat.lt_of_lt_of_le (by have:=Yb _ _ Vo;first|rwa [add_block] at this|exact this) Uw.out);have hn763_2:ad763.block≠Zz:=Nat.ne_of_lt (Nat.lt_of_lt_of_le (by have:=Yb _ _ Vo;first|rwa [add_block] at this|exact this) Uw.out);have hn763_3:ad763.block≠Zz:=Nat.ne_of_lt (Nat.lt_of_lt_of_le (by have:=Yb _ _ Vo;first|rwa [add_block] at this|exact this) Uw.out);replace Vo:=(HB.out.cell (Yb w _ Vo)).trans Vo;replace Vo:=(cell_far (p:=⟨Zz,0,none⟩) (by first|(rw[add_block];exact hn763_0)|(show (Addr.add _ _).block≠_;rw[add_block];exact hn763_0)|exact hn763_0) (.int .i64 ((rd_T74 Za Zt).f0))).trans Vo;replace Vo:=(cell_far (p:=⟨Zz,1,none⟩) (by first|(rw[add_block];exact hn763_1)|(show (Addr.add _ _).block≠_;rw[add_block];exact hn763_1)|exact hn763_1) (.int .i64 ((rd_T74 Za Zt).f1))).trans Vo;replace Vo:=(cell_far (p:=⟨Zz,2,none⟩) (by first|(rw[add_block];exact hn763_2)|(show (Addr.add _ _).block≠_;rw[add_block];exact hn763_2)|exact hn763_2) (.int .i64 ((rd_T74 Za Zt).f2))).trans Vo;replace Vo:=(cell_far (p:=⟨Zz,3,none⟩) (by first|(rw[add_block];exact hn763_3)|(show (Addr.add _ _).block≠_;rw[add_block];exact hn763_3)|exact hn763_3) (.int .i64 ((rd_T74 Za Zt).f3))).trans Vo;clear hn763_0;clear hn763_1;clear hn763_2;clear hn763_3;replace p763:=eq_true p763;replace q763:=eq_true q763))
    go_roundg k1
    case measure=>have:=HK1.out;omega
    case rel=>exact⟨(wrap64 (Uf - (rd l2 Zt))),(wrap64 (Zt+1)),(by first|rfl|(simp;done)|(simp[*];done)),(by first|rfl|(simp;done)|(simp[*];done)),H',⟨by have:=HK1.out;omega⟩,⟨by(with_reducible repeat(first|refine Yl ?_ _|refine Ym ?_|refine Yj ?_ _));refine blk_far ?_ Xj.out _;(with_reducible repeat(first|refine Yl ?_ _|refine Ym ?_|refine Yj ?_ _));refine blk_far ?_ Xj.out _;(with_reducible repeat(first|refine Yl ?_ _|refine Ym ?_|refine Yj ?_ _));refine blk_far ?_ Xj.out _;(with_reducible repeat(first|refine Yl ?_ _|refine Ym ?_|refine Yj ?_ _));refine blk_far ?_ Xj.out _;(with_reducible repeat(first|refine Yl ?_ _|refine Ym ?_|refine Yj ?_ _));exact Wr.out⟩,⟨by repeat(first|(with_reducible first|exact HB.out|apply Ye|apply Yd|apply Yg|refine Yh ?_ Ux.out|refine Yh ?_ GE760.out)|exact HB.out)⟩⟩
   rw[Yx c9] at H
   have c9b0:(((rd_T74 Za Zt).f0) == a1)=true:=beq_iff_eq.mpr c9
   have c9b1:(((rd_T74 Za Zt).f0) != a1)=false:=bne_eq_false_iff_eq.mpr c9
   clear c9
   by_cases c10:Zt<(l2.length:Int)
   rotate_left
   ·rw[Yy c10] at H
    exact absurd H (by simp)
   rw[Yx c10] at H
   have c10b0:decide (Zt<(l2.length:Int))=true:=Yv c10
   clear c10
   by_cases c11:((rd_T74 Za Zt).f1)=a1
   rotate_left
   ·rw[Yy c11] at H
    have c11b0:(((rd_T74 Za Zt).f1) == a1)=false:=beq_eq_false_iff_ne.mpr c11
    have c11b1:(((rd_T74 Za Zt).f1) != a1)=true:=bne_iff_ne.mpr c11
    have H':=Ya H
    clear H
    have p759:0≤(Zt:Int):=Yu (by first|(with_reducible assumption)|assumption)
    have q759:Zt<(Za.length:Int):=Yu (by first|(with_reducible assumption)|assumption)
    obtain⟨Jw,e759,Vk,Vl,Vm,Vn⟩:=at_T74 Zl.out Zt p759 q759
    cases e759
    replace Vk:=(HB.out.cell (Yb w _ Vk)).trans Vk
    replace Vl:=(HB.out.cell (Yb w _ Vl)).trans Vl
    replace Vm:=(HB.out.cell (Yb w _ Vm)).trans Vm
    replace Vn:=(HB.out.cell (Yb w _ Vn)).trans Vn
    replace p759:=eq_true p759
    replace q759:=eq_true q759
    go_wp2_with (first|((with_reducible refine gate_dst (N:=9) rfl ?_);refine Yz ?hg (N:=9) ?hd (cs:= #[.int .i64 0, .int .i64 0, .int .i64 0, .int .i64 0]) (t:=74) ?hr ?_;(case hd=>rfl);(case hg=>rfl);(case hr=>first|(go_simp;done)|(go_simp;rfl));intro Zz hg w15 Zf hb;have n0_:=Ya (Yn (g:=Vj) (o:= .cells #[.int .i64 Zc, .bool Zb, .slice (some Jw) Za.length Zd] 24 (0,0)) (by(with_reducible repeat(first|refine Yl ?_ _|refine Ym ?_|refine Yj ?_ _));exact Wr.out) hb);have n1_:=Ya (Yk (by repeat(first|(with_reducible first|exact HB.out|apply Ye|apply Yd|apply Yg|refine Yh ?_ Ux.out)|exact HB.out)) hb);have n2_:=Ya (Zf);have n3_:=Ya ((by rw[hg];exact(Yi (by repeat(first|(with_reducible first|exact HB.out|apply Ye|apply Yd|apply Yg|refine Yh ?_ Ux.out)|exact HB.out))):w.heap.size≤Zz));have n4_:=Ya ((by rw[hg];exact(Yi (by repeat(first|(with_reducible first|exact HB.out|apply Ye|apply Yd|apply Yg|refine Yh ?_ Ux.out)|exact HB.out))):w.heap.size≤Zz));have n5_:=Ya ((by rw[hg];exact Nat.ne_of_lt (blk_lt (g:=Vj) (o:= .cells #[.int .i64 Zc, .bool Zb, .slice (some Jw) Za.length Zd] 24 (0,0)) (by(with_reducible repeat(first|refine Yl ?_ _|refine Ym ?_|refine Yj ?_ _));exact Wr.out)):Vj≠Zz));have n6_:=Ya ((by rw[hg];exact Nat.ne_of_gt (blk_lt (g:=Vj) (o:= .cells #[.int .i64 Zc, .bool Zb, .slice (some Jw) Za.length Zd] 24 (0,0)) (by(with_reducible repeat(first|refine Yl ?_ _|refine Ym ?_|refine Yj ?_ _));exact Wr.out)):Zz≠Vj));clear Wr;clear HB;have Wr:=n0_;have HB:=n1_;have Wk:=n2_;have Uw:=n3_;have GE760:=n4_;have Xj:=n5_;have Uy:=n6_;clear n0_ n1_ n2_ n3_ n4_ n5_ n6_;clear hb Zf hg;have hnb16:=Uy.out;have hnc16:=Xj.out;have Uh:w15.cell? ⟨Zz,0,none⟩=some (.int .i64 0):=(Yc Wk.out 0).trans rfl;have Ui:w15.cell? ⟨Zz,1,none⟩=some (.int .i64 0):=(Yc Wk.out 1).trans rfl;have Jk:w15.cell? ⟨Zz,2,none⟩=some (.int .i64 0):=(Yc Wk.out 2).trans rfl;have hcz17_3:w15.cell? ⟨Zz,3,none⟩=some (.int .i64 0):=(Yc Wk.out 3).trans rfl;have Uj:=Yf Wk.out 0;have Uk:=Yf Wk.out 1;have Jl:=Yf Wk.out 2;have hfz17_3:=Yf Wk.out 3;have p761:0≤(Zt:Int):=Yu (by first|(with_reducible assumption)|assumption);have q761:Zt<(l2.length:Int):=Yu (by first|(with_reducible assumption)|assumption);obtain⟨ad761,e761,Xl⟩:=Kd.at_int HR2.out Zt p761 q761;cases e761;have hn761_0:ad761.block≠Zz:=Nat.ne_of_lt (Nat.lt_of_lt_of_le (by have:=Yb _ _ Xl;first|rwa [add_block] at this|exact this) Uw.out);have hn761_1:ad761.block≠Zz:=Nat.ne_of_lt (Nat.lt_of_lt_of_le (by have:=Yb _ _ Xl;first|rwa [add_block] at this|exact this) Uw.out);have hn761_2:ad761.block≠Zz:=Nat.ne_of_lt (Nat.lt_of_lt_of_le (by have:=Yb _ _ Xl;first|rwa [add_block] at this|exact this) Uw.out);have hn761_3:ad761.block≠Zz:=Nat.ne_of_lt (Nat.lt_of_lt_of_le (by have:=Yb _ _ Xl;first|rwa [add_block] at this|exact this) Uw.out);replace Xl:=(HB.out.cell (Yb w _ Xl)).trans Xl;replace Xl:=(cell_far (p:=⟨Zz,0,none⟩) (by first|(rw[add_block];exact hn761_0)|(show (Addr.add _ _).block≠_;rw[add_block];exact hn761_0)|exact hn761_0) (.int .i64 ((rd_T74 Za Zt).f0))).trans Xl;replace Xl:=(cell_far (p:=⟨Zz,1,none⟩) (by first|(rw[add_block];exact hn761_1)|(show (Addr.add _ _).block≠_;rw[add_block];exact hn761_1)|exact hn761_1) (.int .i64 ((rd_T74 Za Zt).f1))).trans Xl;replace Xl:=(cell_far (p:=⟨Zz,2,none⟩) (by first|(rw[add_block];exact hn761_2)|(show (Addr.add _ _).block≠_;rw[add_block];exact hn761_2)|exact hn761_2) (.int .i64 ((rd_T74 Za Zt).f2))).trans Xl;replace Xl:=(cell_far (p:=⟨Zz,3,none⟩) (by first|(rw[add_block];exact hn761_3)|(show (Addr.add _ _).block≠_;rw[add_block];exact hn761_3)|exact hn761_3) (.int .i64 ((rd_T74 Za Zt).f3))).trans Xl;clear hn761_0;clear hn761_1;clear hn761_2;clear hn761_3;replace p761:=eq_true p761;replace q761:=eq_true q761))
    go_roundg k1
    case measure=>have:=HK1.out;omega
    case rel=>exact⟨(wrap64 (Uf+(rd l2 Zt))),(wrap64 (Zt+1)),(by first|rfl|(simp;done)|(simp[*];done)),(by first|rfl|(simp;done)|(simp[*];done)),H',⟨by have:=HK1.out;omega⟩,⟨by(with_reducible repeat(first|refine Yl ?_ _|refine Ym ?_|refine Yj ?_ _));refine blk_far ?_ Xj.out _;(with_reducible repeat(first|refine Yl ?_ _|refine Ym ?_|refine Yj ?_ _));refine blk_far ?_ Xj.out _;(with_reducible repeat(first|refine Yl ?_ _|refine Ym ?_|refine Yj ?_ _));refine blk_far ?_ Xj.out _;(with_reducible repeat(first|refine Yl ?_ _|refine Ym ?_|refine Yj ?_ _));refine blk_far ?_ Xj.out _;(with_reducible repeat(first|refine Yl ?_ _|refine Ym ?_|refine Yj ?_ _));exact Wr.out⟩,⟨by repeat(first|(with_reducible first|exact HB.out|apply Ye|apply Yd|apply Yg|refine Yh ?_ Ux.out|refine Yh ?_ GE760.out)|exact HB.out)⟩⟩
   rw[Yx c11] at H
   have c11b0:(((rd_T74 Za Zt).f1) == a1)=true:=beq_iff_eq.mpr c11
   have c11b1:(((rd_T74 Za Zt).f1) != a1)=false:=bne_eq_false_iff_eq.mpr c11
   clear c11
   have H':=Ya H
   clear H
   have p759:0≤(Zt:Int):=Yu (by first|(with_reducible assumption)|assumption)
   have q759:Zt<(Za.length:Int):=Yu (by first|(with_reducible assumption)|assumption)
   obtain⟨Jw,e759,Vk,Vl,Vm,Vn⟩:=at_T74 Zl.out Zt p759 q759
   cases e759
   replace Vk:=(HB.out.cell (Yb w _ Vk)).trans Vk
   replace Vl:=(HB.out.cell (Yb w _ Vl)).trans Vl
   replace Vm:=(HB.out.cell (Yb w _ Vm)).trans Vm
   replace Vn:=(HB.out.cell (Yb w _ Vn)).trans Vn
   replace p759:=eq_true p759
   replace q759:=eq_true q759
   go_wp2_with (first|((with_reducible refine gate_dst (N:=9) rfl ?_);refine Yz ?hg (N:=9) ?hd (cs:= #[.int .i64 0, .int .i64 0, .int .i64 0, .int .i64 0]) (t:=74) ?hr ?_;(case hd=>rfl);(case hg=>rfl);(case hr=>first|(go_simp;done)|(go_simp;rfl));intro Zz hg w12 Zf hb;have n0_:=Ya (Yn (g:=Vj) (o:= .cells #[.int .i64 Zc, .bool Zb, .slice (some Jw) Za.length Zd] 24 (0,0)) (by(with_reducible repeat(first|refine Yl ?_ _|refine Ym ?_|refine Yj ?_ _));exact Wr.out) hb);have n1_:=Ya (Yk (by repeat(first|(with_reducible first|exact HB.out|apply Ye|apply Yd|apply Yg|refine Yh ?_ Ux.out)|exact HB.out)) hb);have n2_:=Ya (Zf);have n3_:=Ya ((by rw[hg];exact(Yi (by repeat(first|(with_reducible first|exact HB.out|apply Ye|apply Yd|apply Yg|refine Yh ?_ Ux.out)|exact HB.out))):w.heap.size≤Zz));have n4_:=Ya ((by rw[hg];exact(Yi (by repeat(first|(with_reducible first|exact HB.out|apply Ye|apply Yd|apply Yg|refine Yh ?_ Ux.out)|exact HB.out))):w.heap.size≤Zz));have n5_:=Ya ((by rw[hg];exact Nat.ne_of_lt (blk_lt (g:=Vj) (o:= .cells #[.int .i64 Zc, .bool Zb, .slice (some Jw) Za.length Zd] 24 (0,0)) (by(with_reducible repeat(first|refine Yl ?_ _|refine Ym ?_|refine Yj ?_ _));exact Wr.out)):Vj≠Zz));have n6_:=Ya ((by rw[hg];exact Nat.ne_of_gt (blk_lt (g:=Vj) (o:= .cells #[.int .i64 Zc, .bool Zb, .slice (some Jw) Za.length Zd] 24 (0,0)) (by(with_reducible repeat(first|refine Yl ?_ _|refine Ym ?_|refine Yj ?_ _));exact Wr.out)):Zz≠Vj));clear Wr;clear HB;have Wr:=n0_;have HB:=n1_;have Wk:=n2_;have Uw:=n3_;have GE760:=n4_;have Xj:=n5_;have Uy:=n6_;clear n0_ n1_ n2_ n3_ n4_ n5_ n6_;clear hb Zf hg;have hnb13:=Uy.out;have hnc13:=Xj.out;have hcz14_0:w12.cell? ⟨Zz,0,none⟩=some (.int .i64 0):=(Yc Wk.out 0).trans rfl;have hcz14_1:w12.cell? ⟨Zz,1,none⟩=some (.int .i64 0):=(Yc Wk.out 1).trans rfl;have hcz14_2:w12.cell? ⟨Zz,2,none⟩=some (.int .i64 0):=(Yc Wk.out 2).trans rfl;have hcz14_3:w12.cell? ⟨Zz,3,none⟩=some (.int .i64 0):=(Yc Wk.out 3).trans rfl;have hfz14_0:=Yf Wk.out 0;have hfz14_1:=Yf Wk.out 1;have hfz14_2:=Yf Wk.out 2;have hfz14_3:=Yf Wk.out 3;have p761:0≤(Zt:Int):=Yu (by first|(with_reducible assumption)|assumption);have q761:Zt<(l2.length:Int):=Yu (by first|(with_reducible assumption)|assumption);obtain⟨ad761,e761,Xl⟩:=Kd.at_int HR2.out Zt p761 q761;cases e761;have hn761_0:ad761.block≠Zz:=Nat.ne_of_lt (Nat.lt_of_lt_of_le (by have:=Yb _ _ Xl;first|rwa [add_block] at this|exact this) Uw.out);have hn761_1:ad761.block≠Zz:=Nat.ne_of_lt (Nat.lt_of_lt_of_le (by have:=Yb _ _ Xl;first|rwa [add_block] at this|exact this) Uw.out);have hn761_2:ad761.block≠Zz:=Nat.ne_of_lt (Nat.lt_of_lt_of_le (by have:=Yb _ _ Xl;first|rwa [add_block] at this|exact this) Uw.out);have hn761_3:ad761.block≠Zz:=Nat.ne_of_lt (Nat.lt_of_lt_of_le (by have:=Yb _ _ Xl;first|rwa [add_block] at this|exact this) Uw.out);replace Xl:=(HB.out.cell (Yb w _ Xl)).trans Xl;replace Xl:=(cell_far (p:=⟨Zz,0,none⟩) (by first|(rw[add_block];exact hn761_0)|(show (Addr.add _ _).block≠_;rw[add_block];exact hn761_0)|exact hn761_0) (.int .i64 ((rd_T74 Za Zt).f0))).trans Xl;replace Xl:=(cell_far (p:=⟨Zz,1,none⟩) (by first|(rw[add_block];exact hn761_1)|(show (Addr.add _ _).block≠_;rw[add_block];exact hn761_1)|exact hn761_1) (.int .i64 ((rd_T74 Za Zt).f1))).trans Xl;replace Xl:=(cell_far (p:=⟨Zz,2,none⟩) (by first|(rw[add_block];exact hn761_2)|(show (Addr.add _ _).block≠_;rw[add_block];exact hn761_2)|exact hn761_2) (.int .i64 ((rd_T74 Za Zt).f2))).trans Xl;replace Xl:=(cell_far (p:=⟨Zz,3,none⟩) (by first|(rw[add_block];exact hn761_3)|(show (Addr.add _ _).block≠_;rw[add_block];exact hn761_3)|exact hn761_3) (.int .i64 ((rd_T74 Za Zt).f3))).trans Xl;clear hn761_0;clear hn761_1;clear hn761_2;clear hn761_3;replace p761:=eq_true p761;replace q761:=eq_true q761;have p762:0≤(Zt:Int):=Yu (by first|(with_reducible assumption)|assumption);have q762:Zt<(l2.length:Int):=Yu (by first|(with_reducible assumption)|assumption);obtain⟨ad762,e762,Vp⟩:=Kd.at_int HR2.out Zt p762 q762;obtain rfl:ad761=ad762:=(by injection e762);have hn762_0:ad761.block≠Zz:=Nat.ne_of_lt (Nat.lt_of_lt_of_le (by have:=Yb _ _ Vp;first|rwa [add_block] at this|exact this) Uw.out);have hn762_1:ad761.block≠Zz:=Nat.ne_of_lt (Nat.lt_of_lt_of_le (by have:=Yb _ _ Vp;first|rwa [add_block] at this|exact this) Uw.out);have hn762_2:ad761.block≠Zz:=Nat.ne_of_lt (Nat.lt_of_lt_of_le (by have:=Yb _ _ Vp;first|rwa [add_block] at this|exact this) Uw.out);have hn762_3:ad761.block≠Zz:=Nat.ne_of_lt (Nat.lt_of_lt_of_le (by have:=Yb _ _ Vp;first|rwa [add_block] at this|exact this) Uw.out);replace Vp:=(HB.out.cell (Yb w _ Vp)).trans Vp;replace Vp:=(cell_far (p:=⟨Zz,0,none⟩) (by first|(rw[add_block];exact hn762_0)|(show (Addr.add _ _).block≠_;rw[add_block];exact hn762_0)|exact hn762_0) (.int .i64 ((rd_T74 Za Zt).f0))).trans Vp;replace Vp:=(cell_far (p:=⟨Zz,1,none⟩) (by first|(rw[add_block];exact hn762_1)|(show (Addr.add _ _).block≠_;rw[add_block];exact hn762_1)|exact hn762_1) (.int .i64 ((rd_T74 Za Zt).f1))).trans Vp;replace Vp:=(cell_far (p:=⟨Zz,2,none⟩) (by first|(rw[add_block];exact hn762_2)|(show (Addr.add _ _).block≠_;rw[add_block];exact hn762_2)|exact hn762_2) (.int .i64 ((rd_T74 Za Zt).f2))).trans Vp;replace Vp:=(cell_far (p:=⟨Zz,3,none⟩) (by first|(rw[add_block];exact hn762_3)|(show (Addr.add _ _).block≠_;rw[add_block];exact hn762_3)|exact hn762_3) (.int .i64 ((rd_T74 Za Zt).f3))).trans Vp;clear hn762_0;clear hn762_1;clear hn762_2;clear hn762_3;replace p762:=eq_true p762;replace q762:=eq_true q762))
   go_roundg k1
   case measure=>have:=HK1.out;omega
   case rel=>exact⟨(wrap64 ((wrap64 (Uf+(rd l2 Zt))) - (rd l2 Zt))),(wrap64 (Zt+1)),(by first|rfl|(simp;done)|(simp[*];done)),(by first|rfl|(simp;done)|(simp[*];done)),H',⟨by have:=HK1.out;omega⟩,⟨by(with_reducible repeat(first|refine Yl ?_ _|refine Ym ?_|refine Yj ?_ _));refine blk_far ?_ Xj.out _;(with_reducible repeat(first|refine Yl ?_ _|refine Ym ?_|refine Yj ?_ _));refine blk_far ?_ Xj.out _;(with_reducible repeat(first|refine Yl ?_ _|refine Ym ?_|refine Yj ?_ _));refine blk_far ?_ Xj.out _;(with_reducible repeat(first|refine Yl ?_ _|refine Ym ?_|refine Yj ?_ _));refine blk_far ?_ Xj.out _;(with_reducible repeat(first|refine Yl ?_ _|refine Ym ?_|refine Yj ?_ _));exact Wr.out⟩,⟨by repeat(first|(with_reducible first|exact HB.out|apply Ye|apply Yd|apply Yg|refine Yh ?_ Ux.out|refine Yh ?_ GE760.out)|exact HB.out)⟩⟩
end P
namespace P
attribute [local go_sem] max2_int min2_int max_two min_two max_three min_three max_four min_four
def span_Best.f (k:Nat) (Zc:Int) (Zb:Bool) (Za:List (S74)) (a1:Int) (a2:Int) (a3:Int):Option (List Int × Int × Int):=(span_Asked.f k Zc Zb Za a1 a2 a3).bind fun t765=>(if t765=0 then((span_Fill.f Zc Zb Za a1 a2 a3).bind fun bt766=>((maxflow_Value.f k Zc Zb Za a1 bt766.1).bind fun t778=>((span_paid.f k Zc Zb Za bt766.1).bind fun t779=>(some (bt766.1,wrap64 ((wrap64 ((wrap64 (a3+1)) * t778)) - t779),0))))) else(some (([]:List Int),0,t765)))
def span_Best.T5:Bool × List (List Nat × List Nat):=(true,[([],[]),([],[]),([1],[1]),([],[]),([],[]),([],[]),([3,4,5],[3,4,5]),([2,6],[2,6]),([],[]),([],[]),([8,9,6],[8,9]),([7,10],[7,10]),([0,10,0,5,9],[0,5,9]),([11,12,0,1,2,3,4,5,6,7,8,9,10,11,12],[11]),([13,0,1,2,3,4,5,6,7,8,9,10,11,12,13],[])])
def span_Best.B5:List Nat:=[0,0,2,0,0,0,56,126,0,0,888,2046,1913,8191,16383]
theorem span_Best.tab5:rtab .any (opsOf Try.f69 5)=span_Best.T5:=by kernel_rfl
theorem span_Best.bits5:waitsOk span_Best.T5.2 span_Best.B5=true:=by kernel_rfl
set_option maxHeartbeats 8000000 in
set_option maxRecDepth 100000 in
theorem span_Best.calls (k:Nat) (Zc:Int) (Zb:Bool) (Ze:Option Addr) (Zd:Nat) (Za:List (S74)) (a1:Int) (a2:Int) (a3:Int) (r1:List Int) (r2:Int) (r3:Int) (w:World) (Zq:Kd.C k74 w Ze Za.length Za) (Zr:Za.length≤Zd) (h:span_Best.f k Zc Zb Za a1 a2 a3=some (r1,r2,r3)):
  Calls Try.prog 69 #[.agg #[.int .i64 Zc, .bool Zb, .slice Ze Za.length Zd], .int .i64 a1, .int .i64 a2, .int .i64 a3] w fun e w'=> ∃ v0_:Value,e= .returned (.tuple #[v0_, .int .i64 r2, .int .i64 r3])∧Kd.R (Kd.int .i64) 3 w' w.heap.size (fun _=>True) v0_ r1∧Below w.heap.size w w':=by
 have hu24:=Try.underlying24
 have Zl:=Ya Zq
 have Xd:=Ya Zr
 clear Zq Zr
 have HB:=Ya (Yo w.heap.size w)
 have H:((span_Asked.f k Zc Zb Za a1 a2 a3).bind fun t765=>(if t765=0 then((span_Fill.f Zc Zb Za a1 a2 a3).bind fun bt766=>((maxflow_Value.f k Zc Zb Za a1 bt766.1).bind fun t778=>((span_paid.f k Zc Zb Za bt766.1).bind fun t779=>(some (bt766.1,wrap64 ((wrap64 ((wrap64 (a3+1)) * t778)) - t779),0))))) else(some (([]:List Int),0,t765))))=some (r1,r2,r3):=h
 clear h
 replace H:=Option.bind_eq_some_iff.mp H
 obtain⟨t765,A50,H⟩:=H
 replace H:(if t765=0 then((span_Fill.f Zc Zb Za a1 a2 a3).bind fun bt766=>((maxflow_Value.f k Zc Zb Za a1 bt766.1).bind fun t778=>((span_paid.f k Zc Zb Za bt766.1).bind fun t779=>(some (bt766.1,wrap64 ((wrap64 ((wrap64 (a3+1)) * t778)) - t779),0))))) else(some (([]:List Int),0,t765)))=some (r1,r2,r3):=H
 have A5:=Ya A50
 clear A50
 by_cases c6:t765=0
 rotate_left
 ·rw[Yy c6] at H
  have c6b0:(t765 == 0)=false:=beq_eq_false_iff_ne.mpr c6
  have c6b1:(t765 != 0)=true:=bne_iff_ne.mpr c6
  simp only[Option.some.injEq,Prod.mk.injEq] at H
  obtain⟨rfl,rfl,rfl⟩:=H
  go_enter Try.func69,Try.ntmps69
  go_wp2_with (first|((with_reducible refine gate_dst (N:=4) rfl ?_);refine Yz ?hg (N:=4) ?hd (cs:= #[.int .i64 Zc, .bool Zb, .slice Ze Za.length Zd]) (t:=24) ?hr ?_;(case hd=>rfl);(case hg=>rfl);(case hr=>first|(go_simp;done)|(go_simp;rfl));intro Ub hg w19 Zf hb;have n0_:=Ya (Yk (by repeat(first|(with_reducible first|exact HB.out|apply Ye|apply Yd|apply Yg)|exact HB.out)) hb);have n1_:=Ya (Zf);have n2_:=Ya ((by rw[hg];exact(Yi (by repeat(first|(with_reducible first|exact HB.out|apply Ye|apply Yd|apply Yg)|exact HB.out))):w.heap.size≤Ub));have n3_:=Ya ((by rw[hg];exact(Yi (by repeat(first|(with_reducible first|exact HB.out|apply Ye|apply Yd|apply Yg)|exact HB.out))):w.heap.size≤Ub));clear HB;have HB:=n0_;have Xs:=n1_;have GW764:=n2_;have GE764:=n3_;clear n0_ n1_ n2_ n3_;clear hb Zf hg;have hcz20_0:w19.cell? ⟨Ub,0,none⟩=some (.int .i64 Zc):=(Yc Xs.out 0).trans rfl;have hcz20_1:w19.cell? ⟨Ub,1,none⟩=some (.bool Zb):=(Yc Xs.out 1).trans rfl;have hcz20_2:w19.cell? ⟨Ub,2,none⟩=some (.slice Ze Za.length Zd):=(Yc Xs.out 2).trans rfl;have hfz20_0:=Yf Xs.out 0;have hfz20_1:=Yf Xs.out 1;have hfz20_2:=Yf Xs.out 2)|((with_reducible refine gate_callee (f:=114) rfl ?_);refine goesL_ (some 15) rfl rfl Try.func114 (by kernel_rfl) rfl #[.agg #[.int .i64 Zc, .bool Zb, .slice Ze Za.length Zd], .int .i64 a1, .int .i64 a2, .int .i64 a3] rfl (by(try simp only[List.map_toArray,List.map_cons,List.map_nil]);first|done|rfl|(simp only[List.length_drop,List.length_take];rfl)) ?_;(with_reducible refine(span_Asked.calls k Zc Zb _ _ Za a1 a2 a3 t765 _ ?side1 ?side2 A5.out).mono ?_);(case side1=>repeat(first|exact(Yt Zl.out HB.out)|(with_reducible refine Kd.C_alloc ?_ _)|(with_reducible refine Kd.C_drewN ?_ _)|(with_reducible refine Kd.C_drew ?_)));(case side2=>exact Xd.out);rintro e w21 ⟨rfl,hb⟩;refine⟨_,rfl,?_⟩;have n0_:=Ya (Yn (g:=Ub) (o:= .cells #[.int .i64 Zc, .bool Zb, .slice Ze Za.length Zd] 24 (0,0)) (by(with_reducible repeat(first|refine Yl ?_ _|refine Ym ?_|refine Yj ?_ _));exact Xs.out) hb);have n1_:=Ya (Yk (by repeat(first|(with_reducible first|exact HB.out|apply Ye|apply Yd|apply Yg|refine Yh ?_ GE764.out)|exact HB.out)) hb);clear Xs;clear HB;have Xs:=n0_;have HB:=n1_;clear n0_ n1_;(try clear hb);(try clear hb2);(try clear hk);(try clear hi)))
  go_ret3
  exact⟨_,by first|rfl|(simp[errW_none,errW_some]<;>rfl)|(simp[*,errW_none,errW_some]<;>rfl),by first|exact Kd.R_nil _ _ _ _ _|exact Kd.N_nil _ _ _ _ _|exact Kd.V_nil _ _ _ _ _|exact Kd.Q_nil _ _ _ _ _|exact Kd.S_nil _ _ _ _ _,by repeat(first|(with_reducible first|exact HB.out|apply Ye|apply Yd|apply Yg|refine Yh ?_ GE764.out)|exact HB.out)⟩
 rw[Yx c6] at H
 have c6b0:(t765 == 0)=true:=beq_iff_eq.mpr c6
 have c6b1:(t765 != 0)=false:=bne_eq_false_iff_eq.mpr c6
 clear c6
 replace H:=Option.bind_eq_some_iff.mp H
 obtain⟨⟨t766,t769,t772,t775⟩,A70,H⟩:=H
 replace H:((maxflow_Value.f k Zc Zb Za a1 t766).bind fun t778=>((span_paid.f k Zc Zb Za t766).bind fun t779=>(some (t766,wrap64 ((wrap64 ((wrap64 (a3+1)) * t778)) - t779),0))))=some (r1,r2,r3):=H
 have A7:=Ya A70
 clear A70
 replace H:=Option.bind_eq_some_iff.mp H
 obtain⟨t778,A80,H⟩:=H
 replace H:((span_paid.f k Zc Zb Za t766).bind fun t779=>(some (t766,wrap64 ((wrap64 ((wrap64 (a3+1)) * t778)) - t779),0)))=some (r1,r2,r3):=H
 have A8:=Ya A80
 clear A80
 replace H:=Option.bind_eq_some_iff.mp H
 obtain⟨t779,A90,H⟩:=H
 replace H:(some (t766,wrap64 ((wrap64 ((wrap64 (a3+1)) * t778)) - t779),0))=some (r1,r2,r3):=H
 have A9:=Ya A90
 clear A90
 simp only[Option.some.injEq,Prod.mk.injEq] at H
 obtain⟨rfl,rfl,rfl⟩:=H
 go_enter Try.func69,Try.ntmps69
 try go_wp2_with (first|((with_reducible refine gate_dst (N:=4) rfl ?_);refine Yz ?hg (N:=4) ?hd (cs:= #[.int .i64 Zc, .bool Zb, .slice Ze Za.length Zd]) (t:=24) ?hr ?_;(case hd=>rfl);(case hg=>rfl);(case hr=>first|(go_simp;done)|(go_simp;rfl));intro Ub hg w10 Zf hb;have n0_:=Ya (Yk (by repeat(first|(with_reducible first|exact HB.out|apply Ye|apply Yd|apply Yg)|exact HB.out)) hb);have n1_:=Ya (Zf);have n2_:=Ya ((by rw[hg];exact(Yi (by repeat(first|(with_reducible first|exact HB.out|apply Ye|apply Yd|apply Yg)|exact HB.out))):w.heap.size≤Ub));have n3_:=Ya ((by rw[hg];exact(Yi (by repeat(first|(with_reducible first|exact HB.out|apply Ye|apply Yd|apply Yg)|exact HB.out))):w.heap.size≤Ub));clear HB;have HB:=n0_;have Xs:=n1_;have GW764:=n2_;have GE764:=n3_;clear n0_ n1_ n2_ n3_;clear hb Zf hg;have Jx:w10.cell? ⟨Ub,0,none⟩=some (.int .i64 Zc):=(Yc Xs.out 0).trans rfl;have Jy:w10.cell? ⟨Ub,1,none⟩=some (.bool Zb):=(Yc Xs.out 1).trans rfl;have Jz:w10.cell? ⟨Ub,2,none⟩=some (.slice Ze Za.length Zd):=(Yc Xs.out 2).trans rfl;have hfz11_0:=Yf Xs.out 0;have hfz11_1:=Yf Xs.out 1;have hfz11_2:=Yf Xs.out 2)|((with_reducible refine gate_callee (f:=114) rfl ?_);refine goesL_ (some 15) rfl rfl Try.func114 (by kernel_rfl) rfl #[.agg #[.int .i64 Zc, .bool Zb, .slice Ze Za.length Zd], .int .i64 a1, .int .i64 a2, .int .i64 a3] rfl (by(try simp only[List.map_toArray,List.map_cons,List.map_nil]);first|done|rfl|(simp only[List.length_drop,List.length_take];rfl)) ?_;(with_reducible refine(span_Asked.calls k Zc Zb _ _ Za a1 a2 a3 t765 _ ?side1 ?side2 A5.out).mono ?_);(case side1=>repeat(first|exact(Yt Zl.out HB.out)|(with_reducible refine Kd.C_alloc ?_ _)|(with_reducible refine Kd.C_drewN ?_ _)|(with_reducible refine Kd.C_drew ?_)));(case side2=>exact Xd.out);rintro e w12 ⟨rfl,hb⟩;refine⟨_,rfl,?_⟩;have n0_:=Ya (Yn (g:=Ub) (o:= .cells #[.int .i64 Zc, .bool Zb, .slice Ze Za.length Zd] 24 (0,0)) (by(with_reducible repeat(first|refine Yl ?_ _|refine Ym ?_|refine Yj ?_ _));exact Xs.out) hb);have n1_:=Ya (Yk (by repeat(first|(with_reducible first|exact HB.out|apply Ye|apply Yd|apply Yg|refine Yh ?_ GE764.out)|exact HB.out)) hb);clear Xs;clear HB;have Xs:=n0_;have HB:=n1_;clear n0_ n1_;(try clear hb);(try clear hb2);(try clear hk);(try clear hi);have hcz13_0:w12.cell? ⟨Ub,0,none⟩=some (.int .i64 Zc):=(Yc Xs.out 0).trans rfl;have hcz13_1:w12.cell? ⟨Ub,1,none⟩=some (.bool Zb):=(Yc Xs.out 1).trans rfl;have hcz13_2:w12.cell? ⟨Ub,2,none⟩=some (.slice Ze Za.length Zd):=(Yc Xs.out 2).trans rfl;have hfz13_0:=Yf Xs.out 0;have hfz13_1:=Yf Xs.out 1;have hfz13_2:=Yf Xs.out 2)|((with_reducible refine gate_callee (f:=118) rfl ?_);refine goesL_ (some 24) rfl rfl Try.func118 (by kernel_rfl) rfl #[.agg #[.int .i64 Zc, .bool Zb, .slice Ze Za.length Zd], .int .i64 a1, .int .i64 a2, .int .i64 a3] rfl (by(try simp only[List.map_toArray,List.map_cons,List.map_nil]);first|done|rfl|(simp only[List.length_drop,List.length_take];rfl)) ?_;(with_reducible refine(span_Fill.calls Zc Zb _ _ Za a1 a2 a3 t766 t769 t772 t775 _ ?side1 ?side2 A7.out).mono ?_);(case side1=>repeat(first|exact(Yt Zl.out HB.out)|(with_reducible refine Kd.C_alloc ?_ _)|(with_reducible refine Kd.C_drewN ?_ _)|(with_reducible refine Kd.C_drew ?_)));(case side2=>exact Xd.out);rintro e w14 ⟨v767,v770,v773,v776,rfl,ho0,ho1,ho2,ho3,hb⟩;refine⟨_,rfl,?_⟩;have n0_:=Ya (Kd.R_lower ho0 (Yi (by repeat(first|(with_reducible first|exact HB.out|apply Ye|apply Yd|apply Yg|refine Yh ?_ GE764.out)|exact HB.out))));have n1_:=Ya (Kd.R_lower ho1 (Yi (by repeat(first|(with_reducible first|exact HB.out|apply Ye|apply Yd|apply Yg|refine Yh ?_ GE764.out)|exact HB.out))));have n2_:=Ya (Kd.R_lower ho2 (Yi (by repeat(first|(with_reducible first|exact HB.out|apply Ye|apply Yd|apply Yg|refine Yh ?_ GE764.out)|exact HB.out))));have n3_:=Ya (Kd.R_lower ho3 (Yi (by repeat(first|(with_reducible first|exact HB.out|apply Ye|apply Yd|apply Yg|refine Yh ?_ GE764.out)|exact HB.out))));have n4_:=Ya (Yn (g:=Ub) (o:= .cells #[.int .i64 Zc, .bool Zb, .slice Ze Za.length Zd] 24 (0,0)) (by(with_reducible repeat(first|refine Yl ?_ _|refine Ym ?_|refine Yj ?_ _));exact Xs.out) hb);have n5_:=Ya (Yk (by repeat(first|(with_reducible first|exact HB.out|apply Ye|apply Yd|apply Yg|refine Yh ?_ GE764.out)|exact HB.out)) hb);clear Xs;clear HB;have Ji:=n0_;have HO771:=n1_;have HO774:=n2_;have HO777:=n3_;have Xs:=n4_;have HB:=n5_;clear n0_ n1_ n2_ n3_ n4_ n5_;(try clear hb);(try clear hb2);(try clear hk);(try clear hi);(try clear ho0);(try clear ho1);(try clear ho2);(try clear ho3)))
 have n0_:=Ya (Yp Ji.out)
 have n1_:=Ya (Yp HO771.out)
 have n2_:=Ya (Yp HO774.out)
 have n3_:=Ya (Yp HO777.out)
 have n4_:=Ya (Ym Xs.out)
 have n5_:=Ya (Yg HB.out)
 clear Ji
 clear HO771
 clear HO774
 clear HO777
 clear Xs
 clear HB
 have Ji:=n0_
 have HO771:=n1_
 have HO774:=n2_
 have HO777:=n3_
 have Xs:=n4_
 have HB:=n5_
 clear n0_ n1_ n2_ n3_ n4_ n5_
 obtain⟨Ao16,co16,eo16⟩:=Kd.R_slice Ji.out
 (first|subst eo16|(injection eo16 with f1_ f2_ f3_;have f4_:=f1_.symm;have f5_:=f3_.symm;clear f1_ f2_ f3_;subst f4_;subst f5_))
 refine start_ (n:=15) (S:=fun w'=>w'.cell? ⟨Ub,0,none⟩=some (.int .i64 Zc)∧w'.cell? ⟨Ub,1,none⟩=some (.bool Zb)∧w'.cell? ⟨Ub,2,none⟩=some (.slice Ze Za.length Zd)) (ds:=[]) #[false,false,false,false,false,false,false,false,false,false,false,false,false,false,false] (by kernel_rfl) rfl rfl ⟨(Yc Xs.out 0).trans rfl,(Yc Xs.out 1).trans rfl,(Yc Xs.out 2).trans rfl⟩ (fun hHeld=> ?_);refine with_tabW span_Best.tab5 span_Best.bits5 (fun HT_ HW_=> ?_)
 generalize w14.drew=w15 at Ji HO771 HO774 HO777 Xs HB hHeld ⊢
 refine pure_ (i:=0) (N:=some 27) (v:= ?_) (a':= ?_) #[true,false,false,false,false,false,false,false,false,false,false,false,false,false,false] rfl rfl (any_of HT_.out (by kernel_rfl)) (fun _ _ _ h=>h) (Or.inl ⟨by rfl,?_⟩) ?_ ?_
 rotate_left
 ·intro w'
  go_simp
  with_reducible rfl
 rotate_left
 ·simp only[Act.put,List.setIfInBounds_toArray,List.set_cons_zero,List.set_cons_succ,i64_w,i32_w]
  rfl
 refine pure_ (i:=1) (N:=some 28) (v:= ?_) (a':= ?_) #[true,true,false,false,false,false,false,false,false,false,false,false,false,false,false] rfl rfl (any_of HT_.out (by kernel_rfl)) (fun _ _ _ h=>h) (Or.inl ⟨by rfl,?_⟩) ?_ ?_
 rotate_left
 ·intro w'
  go_simp
  with_reducible rfl
 rotate_left
 ·simp only[Act.put,List.setIfInBounds_toArray,List.set_cons_zero,List.set_cons_succ,i64_w,i32_w]
  rfl
 refine pure_ (i:=2) (N:=some 29) (v:= ?_) (a':= ?_) #[true,true,true,false,false,false,false,false,false,false,false,false,false,false,false] rfl rfl (any_of HT_.out (by kernel_rfl)) (fun _ _ _ h=>h) (Or.inl ⟨by rfl,?_⟩) ?_ ?_
 rotate_left
 ·intro w'
  go_simp
  with_reducible rfl
 rotate_left
 ·simp only[Act.put,List.setIfInBounds_toArray,List.set_cons_zero,List.set_cons_succ,i64_w,i32_w]
  rfl
 refine pure_ (i:=4) (N:=some 31) (v:= ?_) (a':= ?_) #[true,true,true,false,true,false,false,false,false,false,false,false,false,false,false] rfl rfl (any_of HT_.out (by kernel_rfl)) (fun _ _ _ h=>h) (Or.inl ⟨by rfl,?_⟩) ?_ ?_
 rotate_left
 ·intro w'
  go_simp
  with_reducible rfl
 rotate_left
 ·simp only[Act.put,List.setIfInBounds_toArray,List.set_cons_zero,List.set_cons_succ,i64_w,i32_w]
  rfl
 refine pure_ (i:=5) (N:=some 32) (v:= ?_) (a':= ?_) #[true,true,true,false,true,true,false,false,false,false,false,false,false,false,false] rfl rfl (any_of HT_.out (by kernel_rfl)) (fun _ _ _ h=>h) (Or.inl ⟨by rfl,?_⟩) ?_ ?_
 rotate_left
 ·intro w'
  go_simp
  with_reducible rfl
 rotate_left
 ·simp only[Act.put,List.setIfInBounds_toArray,List.set_cons_zero,List.set_cons_succ,i64_w,i32_w]
  rfl
 refine pure_ (i:=9) (N:=some 36) (v:= ?_) (a':= ?_) #[true,true,true,false,true,true,false,false,false,true,false,false,false,false,false] rfl rfl (any_of HT_.out (by kernel_rfl)) (fun _ _ _ h=>h) (Or.inl ⟨by rfl,?_⟩) ?_ ?_
 rotate_left
 ·intro w'
  go_simp
  with_reducible rfl
 rotate_left
 ·simp only[Act.put,List.setIfInBounds_toArray,List.set_cons_zero,List.set_cons_succ,i64_w,i32_w]
  rfl
 refine take_ (i:=3) (N:=some 30) (v:= ?_) (a':= ?_) #[true,true,true,true,true,true,false,false,false,true,false,false,false,false,false] rfl rfl (take_ofW HT_.out HW_.out (by kernel_rfl)) (fun _ _ _ h=>h) (Or.inl ⟨by rfl,?_⟩) hHeld ?_ ?_
 rotate_left
 ·rintro w' ⟨s0,s1,s2⟩
  go_simp
  with_reducible rfl
 rotate_left
 ·simp only[Act.put,List.setIfInBounds_toArray,List.set_cons_zero,List.set_cons_succ,i64_w,i32_w]
  rfl
 refine take_ (i:=8) (N:=some 35) (v:= ?_) (a':= ?_) #[true,true,true,true,true,true,false,false,true,true,false,false,false,false,false] rfl rfl (take_ofW HT_.out HW_.out (by kernel_rfl)) (fun _ _ _ h=>h) (Or.inl ⟨by rfl,?_⟩) hHeld ?_ ?_
 rotate_left
 ·rintro w' ⟨s0,s1,s2⟩
  go_simp
  with_reducible rfl
 rotate_left
 ·simp only[Act.put,List.setIfInBounds_toArray,List.set_cons_zero,List.set_cons_succ,i64_w,i32_w]
  rfl
 refine one_ (i:=6) (N:=some 33) #[true,true,true,true,true,true,true,false,true,true,false,false,false,false,false] rfl rfl (one_of HT_.out (by kernel_rfl)) (by decide) (fun K hK=> ?_)
 refine goes_ Try.func119 (by kernel_rfl) rfl #[.agg #[.int .i64 Zc, .bool Zb, .slice Ze Za.length Zd], .int .i64 a1, .slice Ao16 t766.length co16] (by rfl) rfl rfl (by(try simp only[List.map_toArray,List.map_cons,List.map_nil]);first|done|rfl|(simp only[List.length_drop,List.length_take];rfl)) ?_
 with_reducible refine(maxflow_Value.calls k Zc Zb _ _ Za a1 _ _ t766 t778 _ ?side1 ?side2 ?side3 ?side4 A8.out).mono ?_
 (case side1=>repeat(first|exact(Yt Zl.out HB.out)|(with_reducible refine Kd.C_alloc ?_ _)|(with_reducible refine Kd.C_drewN ?_ _)|(with_reducible refine Kd.C_drew ?_)))
 (case side2=>exact Xd.out)
 (case side3=>repeat(first|exact(Kd.R_reads' Ji.out).2.2|(with_reducible refine Kd.C_alloc ?_ _)|(with_reducible refine Kd.C_drewN ?_ _)|(with_reducible refine Kd.C_drew ?_)))
 (case side4=>exact(Kd.R_reads' Ji.out).2.1)
 rintro e w17 ⟨rfl,hb⟩
 refine⟨_,rfl,?_⟩
 have n0_:=Ya (Ys (by(with_reducible repeat(first|apply Yr|apply Yq|apply Yp));exact Ji.out) hb)
 have n1_:=Ya (Ys (by(with_reducible repeat(first|apply Yr|apply Yq|apply Yp));exact HO771.out) hb)
 have n2_:=Ya (Ys (by(with_reducible repeat(first|apply Yr|apply Yq|apply Yp));exact HO774.out) hb)
 have n3_:=Ya (Ys (by(with_reducible repeat(first|apply Yr|apply Yq|apply Yp));exact HO777.out) hb)
 have n4_:=Ya (Yn (g:=Ub) (o:= .cells #[.int .i64 Zc, .bool Zb, .slice Ze Za.length Zd] 24 (0,0)) (by(with_reducible repeat(first|refine Yl ?_ _|refine Ym ?_|refine Yj ?_ _));exact Xs.out) hb)
 have n5_:=Ya (Yk (by repeat(first|(with_reducible first|exact HB.out|apply Ye|apply Yd|apply Yg|refine Yh ?_ GE764.out)|exact HB.out)) hb)
 clear Ji
 clear HO771
 clear HO774
 clear HO777
 clear Xs
 clear HB
 have Ji:=n0_
 have HO771:=n1_
 have HO774:=n2_
 have HO777:=n3_
 have Xs:=n4_
 have HB:=n5_
 clear n0_ n1_ n2_ n3_ n4_ n5_
 (try clear hb)
 (try clear hb2)
 (try clear hk)
 (try clear hi)
 refine hK.out _ _ ⟨(Yc Xs.out 0).trans rfl,(Yc Xs.out 1).trans rfl,(Yc Xs.out 2).trans rfl⟩ (fun hHeld=> ?_)
 clear hK K
 refine norm_ (a':= ?_) ?_ ?_
 rotate_left
 ·show Act.put _ (some 33) _=_
  simp only[Act.put,List.setIfInBounds_toArray,List.set_cons_zero,List.set_cons_succ,i64_w,i32_w]
  rfl
 refine pure_ (i:=7) (N:=some 34) (v:= ?_) (a':= ?_) #[true,true,true,true,true,true,true,true,true,true,false,false,false,false,false] rfl rfl (any_of HT_.out (by kernel_rfl)) (fun _ _ _ h=>h) (Or.inl ⟨by rfl,?_⟩) ?_ ?_
 rotate_left
 ·intro w'
  go_simp
  with_reducible rfl
 rotate_left
 ·simp only[Act.put,List.setIfInBounds_toArray,List.set_cons_zero,List.set_cons_succ,i64_w,i32_w]
  rfl
 refine one_ (i:=10) (N:=some 37) #[true,true,true,true,true,true,true,true,true,true,true,false,false,false,false] rfl rfl (one_of HT_.out (by kernel_rfl)) (by decide) (fun K hK=> ?_)
 refine goes_ Try.func116 (by kernel_rfl) rfl #[.agg #[.int .i64 Zc, .bool Zb, .slice Ze Za.length Zd], .slice Ao16 t766.length co16] (by rfl) rfl rfl (by(try simp only[List.map_toArray,List.map_cons,List.map_nil]);first|done|rfl|(simp only[List.length_drop,List.length_take];rfl)) ?_
 with_reducible refine(span_paid.calls k Zc Zb _ _ Za _ _ t766 t779 _ ?side1 ?side2 ?side3 ?side4 A9.out).mono ?_
 (case side1=>repeat(first|exact(Yt Zl.out HB.out)|(with_reducible refine Kd.C_alloc ?_ _)|(with_reducible refine Kd.C_drewN ?_ _)|(with_reducible refine Kd.C_drew ?_)))
 (case side2=>exact Xd.out)
 (case side3=>repeat(first|exact(Kd.R_reads' Ji.out).2.2|(with_reducible refine Kd.C_alloc ?_ _)|(with_reducible refine Kd.C_drewN ?_ _)|(with_reducible refine Kd.C_drew ?_)))
 (case side4=>exact(Kd.R_reads' Ji.out).2.1)
 rintro e w18 ⟨rfl,hb⟩
 refine⟨_,rfl,?_⟩
 have n0_:=Ya (Ys (by(with_reducible repeat(first|apply Yr|apply Yq|apply Yp));exact Ji.out) hb)
 have n1_:=Ya (Ys (by(with_reducible repeat(first|apply Yr|apply Yq|apply Yp));exact HO771.out) hb)
 have n2_:=Ya (Ys (by(with_reducible repeat(first|apply Yr|apply Yq|apply Yp));exact HO774.out) hb)
 have n3_:=Ya (Ys (by(with_reducible repeat(first|apply Yr|apply Yq|apply Yp));exact HO777.out) hb)
 have n4_:=Ya (Yn (g:=Ub) (o:= .cells #[.int .i64 Zc, .bool Zb, .slice Ze Za.length Zd] 24 (0,0)) (by(with_reducible repeat(first|refine Yl ?_ _|refine Ym ?_|refine Yj ?_ _));exact Xs.out) hb)
 have n5_:=Ya (Yk (by repeat(first|(with_reducible first|exact HB.out|apply Ye|apply Yd|apply Yg|refine Yh ?_ GE764.out)|exact HB.out)) hb)
 clear Ji
 clear HO771
 clear HO774
 clear HO777
 clear Xs
 clear HB
 have Ji:=n0_
 have HO771:=n1_
 have HO774:=n2_
 have HO777:=n3_
 have Xs:=n4_
 have HB:=n5_
 clear n0_ n1_ n2_ n3_ n4_ n5_
 (try clear hb)
 (try clear hb2)
 (try clear hk)
 (try clear hi)
 refine hK.out _ _ ⟨(Yc Xs.out 0).trans rfl,(Yc Xs.out 1).trans rfl,(Yc Xs.out 2).trans rfl⟩ (fun hHeld=> ?_)
 clear hK K
 refine norm_ (a':= ?_) ?_ ?_
 rotate_left
 ·show Act.put _ (some 37) _=_
  simp only[Act.put,List.setIfInBounds_toArray,List.set_cons_zero,List.set_cons_succ,i64_w,i32_w]
  rfl
 refine pure_ (i:=11) (N:=some 38) (v:= ?_) (a':= ?_) #[true,true,true,true,true,true,true,true,true,true,true,true,false,false,false] rfl rfl (any_of HT_.out (by kernel_rfl)) (fun _ _ _ h=>h) (Or.inl ⟨by rfl,?_⟩) ?_ ?_
 rotate_left
 ·intro w'
  go_simp
  with_reducible rfl
 rotate_left
 ·simp only[Act.put,List.setIfInBounds_toArray,List.set_cons_zero,List.set_cons_succ,i64_w,i32_w]
  rfl
 refine pure_ (i:=12) (N:=some 8) (v:= ?_) (a':= ?_) #[true,true,true,true,true,true,true,true,true,true,true,true,true,false,false] rfl rfl (any_of HT_.out (by kernel_rfl)) (fun _ _ _ h=>h) (Or.inl ⟨by rfl,?_⟩) ?_ ?_
 rotate_left
 ·intro w'
  go_simp
  with_reducible rfl
 rotate_left
 ·simp only[Act.put,List.setIfInBounds_toArray,List.set_cons_zero,List.set_cons_succ,i64_w,i32_w]
  rfl
 refine pure_ (i:=13) (N:=some 9) (v:= ?_) (a':= ?_) #[true,true,true,true,true,true,true,true,true,true,true,true,true,true,false] rfl rfl (any_of HT_.out (by kernel_rfl)) (fun _ _ _ h=>h) (Or.inl ⟨by rfl,?_⟩) ?_ ?_
 rotate_left
 ·intro w'
  go_simp
  with_reducible rfl
 rotate_left
 ·simp only[Act.put,List.setIfInBounds_toArray,List.set_cons_zero,List.set_cons_succ,i64_w,i32_w]
  rfl
 refine pure_ (i:=14) (N:=some 10) (v:= ?_) (a':= ?_) #[true,true,true,true,true,true,true,true,true,true,true,true,true,true,true] rfl rfl (any_of HT_.out (by kernel_rfl)) (fun _ _ _ h=>h) (Or.inl ⟨by rfl,?_⟩) ?_ ?_
 rotate_left
 ·intro w'
  go_simp
  with_reducible rfl
 rotate_left
 ·simp only[Act.put,List.setIfInBounds_toArray,List.set_cons_zero,List.set_cons_succ,i64_w,i32_w]
  rfl
 refine done_ (done_of HT_.out (by kernel_rfl)) ?_
 try go_wp2
 go_ret3
 exact⟨_,by first|rfl|(simp[errW_none,errW_some]<;>rfl)|(simp[*,errW_none,errW_some]<;>rfl),by(with_reducible repeat(first|apply Yr|apply Yq|apply Yp));exact Kd.R_mono Ji.out (fun _ hk=>trivial),by repeat(first|(with_reducible first|exact HB.out|apply Ye|apply Yd|apply Yg|refine Yh ?_ GE764.out)|exact HB.out)⟩
end P
namespace P
attribute [local go_sem] max2_int min2_int max_two min_two max_three min_three max_four min_four
def span_Most.f (k:Nat) (Zc:Int) (Zb:Bool) (Za:List (S74)) (a1:Int) (a2:Int) (a3:Int):Option (Int × Int):=(span_Best.f k Zc Zb Za a1 a2 a3).bind fun bt781=>(some (bt781.2.1,bt781.2.2))
set_option maxHeartbeats 8000000 in
set_option maxRecDepth 100000 in
theorem span_Most.calls (k:Nat) (Zc:Int) (Zb:Bool) (Ze:Option Addr) (Zd:Nat) (Za:List (S74)) (a1:Int) (a2:Int) (a3:Int) (r1:Int) (r2:Int) (w:World) (Zq:Kd.C k74 w Ze Za.length Za) (Zr:Za.length≤Zd) (h:span_Most.f k Zc Zb Za a1 a2 a3=some (r1,r2)):
  Calls Try.prog 67 #[.agg #[.int .i64 Zc, .bool Zb, .slice Ze Za.length Zd], .int .i64 a1, .int .i64 a2, .int .i64 a3] w fun e w'=>e= .returned (.tuple #[.int .i64 r1, .int .i64 r2])∧Below w.heap.size w w':=by
 have hu24:=Try.underlying24
 have Zl:=Ya Zq
 have Xd:=Ya Zr
 clear Zq Zr
 have HB:=Ya (Yo w.heap.size w)
 have H:((span_Best.f k Zc Zb Za a1 a2 a3).bind fun bt781=>(some (bt781.2.1,bt781.2.2)))=some (r1,r2):=h
 clear h
 replace H:=Option.bind_eq_some_iff.mp H
 obtain⟨⟨t781,t784,t785⟩,A50,H⟩:=H
 replace H:(some (t784,t785))=some (r1,r2):=H
 have A5:=Ya A50
 clear A50
 simp only[Option.some.injEq,Prod.mk.injEq] at H
 obtain⟨rfl,rfl⟩:=H
 go_enter Try.func67,Try.ntmps67
 go_wp2_with (first|((with_reducible refine gate_dst (N:=4) rfl ?_);refine Yz ?hg (N:=4) ?hd (cs:= #[.int .i64 Zc, .bool Zb, .slice Ze Za.length Zd]) (t:=24) ?hr ?_;(case hd=>rfl);(case hg=>rfl);(case hr=>first|(go_simp;done)|(go_simp;rfl));intro gb780 hg w6 Zf hb;have n0_:=Ya (Yk (by repeat(first|(with_reducible first|exact HB.out|apply Ye|apply Yd|apply Yg)|exact HB.out)) hb);have n1_:=Ya (Zf);have n2_:=Ya ((by rw[hg];exact(Yi (by repeat(first|(with_reducible first|exact HB.out|apply Ye|apply Yd|apply Yg)|exact HB.out))):w.heap.size≤gb780));have n3_:=Ya ((by rw[hg];exact(Yi (by repeat(first|(with_reducible first|exact HB.out|apply Ye|apply Yd|apply Yg)|exact HB.out))):w.heap.size≤gb780));clear HB;have HB:=n0_;have BK780:=n1_;have GW780:=n2_;have GE780:=n3_;clear n0_ n1_ n2_ n3_;clear hb Zf hg;have hcz7_0:w6.cell? ⟨gb780,0,none⟩=some (.int .i64 Zc):=(Yc BK780.out 0).trans rfl;have hcz7_1:w6.cell? ⟨gb780,1,none⟩=some (.bool Zb):=(Yc BK780.out 1).trans rfl;have hcz7_2:w6.cell? ⟨gb780,2,none⟩=some (.slice Ze Za.length Zd):=(Yc BK780.out 2).trans rfl;have hfz7_0:=Yf BK780.out 0;have hfz7_1:=Yf BK780.out 1;have hfz7_2:=Yf BK780.out 2)|((with_reducible refine gate_callee (f:=69) rfl ?_);refine goesL_ (some 15) rfl rfl Try.func69 (by kernel_rfl) rfl #[.agg #[.int .i64 Zc, .bool Zb, .slice Ze Za.length Zd], .int .i64 a1, .int .i64 a2, .int .i64 a3] rfl (by(try simp only[List.map_toArray,List.map_cons,List.map_nil]);first|done|rfl|(simp only[List.length_drop,List.length_take];rfl)) ?_;(with_reducible refine(span_Best.calls k Zc Zb _ _ Za a1 a2 a3 t781 t784 t785 _ ?side1 ?side2 A5.out).mono ?_);(case side1=>repeat(first|exact(Yt Zl.out HB.out)|(with_reducible refine Kd.C_alloc ?_ _)|(with_reducible refine Kd.C_drewN ?_ _)|(with_reducible refine Kd.C_drew ?_)));(case side2=>exact Xd.out);rintro e w8 ⟨v782,rfl,ho0,hb⟩;refine⟨_,rfl,?_⟩;have n0_:=Ya (Kd.R_lower ho0 (Yi (by repeat(first|(with_reducible first|exact HB.out|apply Ye|apply Yd|apply Yg|refine Yh ?_ GE780.out)|exact HB.out))));have n1_:=Ya (Yn (g:=gb780) (o:= .cells #[.int .i64 Zc, .bool Zb, .slice Ze Za.length Zd] 24 (0,0)) (by(with_reducible repeat(first|refine Yl ?_ _|refine Ym ?_|refine Yj ?_ _));exact BK780.out) hb);have n2_:=Ya (Yk (by repeat(first|(with_reducible first|exact HB.out|apply Ye|apply Yd|apply Yg|refine Yh ?_ GE780.out)|exact HB.out)) hb);clear BK780;clear HB;have HO783:=n0_;have BK780:=n1_;have HB:=n2_;clear n0_ n1_ n2_;(try clear hb);(try clear hb2);(try clear hk);(try clear hi);(try clear ho0)))
 go_ret2
 exact⟨by first|rfl|(simp[errW_none,errW_some]<;>rfl)|(simp[*,errW_none,errW_some]<;>rfl),by repeat(first|(with_reducible first|exact HB.out|apply Ye|apply Yd|apply Yg|refine Yh ?_ GE780.out)|exact HB.out)⟩
end P
end Go.Proofs.Ytkcpanpdipmmmaa
