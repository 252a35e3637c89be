/- What the law's row needs of these texts, taken out of them by wip/tool/mini.py: QPushLaw QFlowWalk QDownLaw QCutLaw QFlowLaw QSeekLaw P58 QQueGrow QQuePut P55 P56 QRepeatWalk QLeast QSeekWalk QLevelDef QFarsWalk QFillMem QDownWalk QPhaseMem QPhaseWalk QSortNil QSortRow. -/
import Derived.Test.YtkcpanpdipmmmaaMdcalel
import Derived.Test.YtkcpanpdipmmmaaMoafmie
import Derived.Deep.RegionHeld3
import Derived.Deep.RegionLaw
import Derived.Deep.AppendLies
import Derived.IntWalk
import Derived.Laws.IdiomCopy
import Derived.Laws.CopyOwn
import Derived.Test.YtkcpanpdipmmmaaProg
import Derived.RegionTactic
import Derived.ChangeAlike
import Derived.BigRegion
import Derived.LoopTactic
import Derived.WalkKit
import Derived.WalkMore
import Derived.Deep.DeepCutAuto
import Derived.Lib.SliceRun
set_option linter.unusedVariables false
set_option linter.unusedSimpArgs false
open Go.RowKit Go.Proofs.YtkcpanpdipmmmaaW.PrintWords Go.Proofs.YtkcpanpdipmmmaaW.PrintLast Go.Proofs.YtkcpanpdipmmmaaW.PrintMore
namespace Go.Proofs.Ytkcpanpdipmmmaa
namespace H
open P Q
def goS (F:List Int) (s:S38) (k:Int):List Int:=F.set s.f0.toNat (if s.f1 then F.getD s.f0.toNat 0 - k else F.getD s.f0.toNat 0+k)
def pushW (F:List Int) (k:Int) (L:List S38):List Int:=L.foldl (fun F s=>goS F s k) F
theorem goS_len (F:List Int) (s:S38) (k:Int):(goS F s k).length=F.length:=by simp[goS]
theorem stRoom_in {l:List S74} {F:List Int} {n:Nat} (hr:Right l F n) {s:S38} (hs:StepOf l s):0≤stRoom l F s∧stRoom l F s≤1048576:=by
 obtain⟨i,h1,h2⟩:=hs;have:=hr.nums i h1;unfold stRoom;rw[h2,Int.toNat_natCast];split<;>omega
theorem Right.go {l:List S74} {F:List Int} {n:Nat} (hr:Right l F n) {s:S38} (hs:StepOf l s) {k:Int} (h0:0≤k) (hk:k≤stRoom l F s):Right l (goS F s k) n:=by
 obtain⟨i,h1,h2⟩:=hs;have hi:=hr.nums i h1;have hl:=hr.len;refine⟨hr.pos,hr.fifty,hr.arcs,by rw[goS_len];exact hl,hr.ends,fun j hj=> ?_⟩;have h3:=hr.nums j hj;unfold stRoom at hk;rw[h2,Int.toNat_natCast] at hk;unfold goS;rw[h2,Int.toNat_natCast];by_cases e:i=j
 ·subst e
  rw[getD_set_eq _ _ _ _ (by omega)];cases hb:s.f1<;>rw[hb] at hk<;>simp only[Bool.false_eq_true,if_false,if_true] at hk ⊢ <;>omega
 ·rw[getD_set_ne _ _ _ _ _ e]
  exact h3
theorem room_other {l:List S74} {F:List Int} {s s':S38} (hs:StepOf l s) (hs':StepOf l s') (k:Int) (h:s.f0≠s'.f0):stRoom l (goS F s k) s'=stRoom l F s':=by
 obtain⟨i,h1,h2⟩:=hs;obtain⟨j,h3,h4⟩:=hs';unfold stRoom goS;rw[h2,h4,Int.toNat_natCast,Int.toNat_natCast,getD_set_ne _ _ _ _ _ (fun e=>h (by rw[h2,h4,e]))]
theorem Right.pushW {l:List S74} {n:Nat} {k:Int} (h0:0≤k) (L:List S38): ∀ {F:List Int},Right l F n→(∀ s,s∈L→StepOf l s∧k≤stRoom l F s)→L.Pairwise (fun a b=>a.f0≠b.f0)→Right l (H.pushW F k L) n:=by
 induction L with
 |nil=>intro F hr _ _;exact hr
 |cons s L ih=>
  intro F hr h hp;rw[List.pairwise_cons] at hp;have hs:=h s List.mem_cons_self;refine ih (hr.go hs.1 h0 hs.2) (fun x hx=> ?_) hp.2;have hx2:=h x (List.mem_cons_of_mem _ hx);exact⟨hx2.1,by rw[room_other hs.1 hx2.1 k (hp.1 x hx)];exact hx2.2⟩
theorem bal_set (l:List S74) (v:Int): ∀ (f:List Int) (i:Nat) (y:Int),f.length=l.length→i<l.length→
  bal l (f.set i y) v=bal l f v+(if (rd_T74 l i).f0=v then y - f.getD i 0 else 0) - (if (rd_T74 l i).f1=v then y - f.getD i 0 else 0):=by
 induction l with
 |nil=>intro f i y h hi;simp at hi
 |cons a l ih=>
  intro f i y h hi;cases f with
  |nil=>simp at h
  |cons x f=>
   cases i with
   |zero=>
    have e:rd_T74 (a::l) ((0:Nat):Int)=a:=rfl;rw[e];simp only[List.set_cons_zero,List.getD_cons_zero,bal_cons];split<;>split<;>omega
   |succ i=>
    have e:rd_T74 (a::l) ((i+1:Nat):Int)=rd_T74 l (i:Int):=by rw[rdArc_nat,rdArc_nat];rfl
    rw[e];simp only[List.set_cons_succ,List.getD_cons_succ,bal_cons];rw[ih f i y (by simpa using h) (by simpa using hi)];omega
theorem bal_go {l:List S74} {f:List Int} (hl:f.length=l.length) {s:S38} (hs:StepOf l s) (k v:Int):
  bal l (goS f s k) v=bal l f v+(if stFrom l s=v then k else 0) - (if stTo l s=v then k else 0):=by
 obtain⟨i,h1,h2⟩:=hs;unfold goS stFrom stTo eFrom eTo;rw[h2,Int.toNat_natCast,bal_set l v f _ _ hl h1];cases s.f1
 ·simp only[Bool.false_eq_true,if_false]
  split<;>split<;>omega
 ·simp only[if_true]
  split<;>split<;>omega
def Trail (l:List S74):Int→List S38→Int→Prop
 |a,[],b=>a=b
 |a,s::L,b=>StepOf l s∧stFrom l s=a∧Trail l (stTo l s) L b
theorem Trail.of {l:List S74} : ∀ {L:List S38} {a b:Int},Trail l a L b→ ∀ s,s∈L→StepOf l s
 |[],_,_,_,s,hs=>by cases hs
 |x::L,_,_,h,s,hs=>(List.mem_cons.1 hs).elim (fun e=>e▸h.1) (h.2.2.of s)
theorem bal_pushW {l:List S74} (k v:Int): ∀ {L:List S38} {f:List Int} {a b:Int},f.length=l.length→Trail l a L b→
  bal l (pushW f k L) v=bal l f v+(if v=a then k else 0) - (if v=b then k else 0)
 |[],f,a,b,_,h=>by
  have h:a=b:=h;subst h;show bal l f v=_;omega
 |s::L,f,a,b,hl,h=>by
  obtain⟨hs,rfl,ht⟩:=h;show bal l (pushW (goS f s k) k L) v=_;rw[bal_pushW k v (by rw[goS_len,hl]) ht,bal_go hl hs];have e1:(if v=stTo l s then k else 0)=(if stTo l s=v then k else 0):=by
   by_cases e:stTo l s=v
   ·rw[Yx e,Yx e.symm]
   ·rw[Yy e,Yy (Ne.symm e)]
  have e2:(if v=stFrom l s then k else 0)=(if stFrom l s=v then k else 0):=by
   by_cases e:stFrom l s=v
   ·rw[Yx e,Yx e.symm]
   ·rw[Yy e,Yy (Ne.symm e)]
  rw[e1,e2];omega
theorem rises_apart {l:List S74} (lv:Int→Int): ∀ {L:List S38} {a b:Int},Trail l a L b→(∀ s,s∈L→lv (stTo l s)=lv (stFrom l s)+1)→
  L.Pairwise (fun x y=>x.f0≠y.f0)∧ ∀ s,s∈L→lv a≤lv (stFrom l s)
 |[],_,_,_,_=>⟨List.Pairwise.nil,fun s hs=>by cases hs⟩
 |x::L,a,b,h,hv=>by
  obtain⟨hs,ha,ht⟩:=h;have hx:=hv x List.mem_cons_self;obtain⟨h1,h2⟩:=rises_apart lv ht (fun s hs=>hv s (List.mem_cons_of_mem _ hs));refine⟨List.pairwise_cons.2 ⟨fun y hy e=> ?_,h1⟩,fun s hs=> ?_⟩
  ·have h3:=h2 y hy
   have h4:=hv y (List.mem_cons_of_mem _ hy);have h5:(stFrom l y=stFrom l x∧stTo l y=stTo l x)∨(stFrom l y=stTo l x∧stTo l y=stFrom l x):=by
    unfold stFrom stTo;rw[e];cases x.f1<;>cases y.f1<;>simp
   rcases h5 with ⟨e1,e2⟩|⟨e1,e2⟩
   ·rw[e1] at h3;omega
   ·rw[e1,e2] at h4;omega
  ·rcases List.mem_cons.1 hs with rfl|hs
   ·rw[ha];exact Int.le_refl _
   ·have:=h2 s hs
    rw[← ha];omega
def leastR (l:List S74) (F:List Int):List S38→Int
 |[]=>0
 |[s]=>stRoom l F s
 |s::t::L=>min (stRoom l F s) (leastR l F (t::L))
theorem leastR_le {l:List S74} {F:List Int} : ∀ {L:List S38} {s:S38},s∈L→leastR l F L≤stRoom l F s
 |[],s,h=>by cases h
 |[x],s,h=>by rw[List.mem_singleton.1 h];exact Int.le_refl _
 |x::y::L,s,h=>by
  unfold leastR;rcases List.mem_cons.1 h with rfl|h
  ·omega
  ·have:=leastR_le (l:=l) (F:=F) h
   omega
theorem leastR_in {l:List S74} {F:List Int} : ∀ {L:List S38},L≠[]→ ∃ s,s∈L∧leastR l F L=stRoom l F s
 |[],h=>absurd rfl h
 |[x],_=>⟨x,List.mem_cons_self,rfl⟩
 |x::y::L,_=>by
  obtain⟨s,h1,h2⟩:=leastR_in (l:=l) (F:=F) (L:=y::L) (by simp);unfold leastR;by_cases h:stRoom l F x≤leastR l F (y::L)
  ·exact⟨x,List.mem_cons_self,by omega⟩
  ·exact⟨s,List.mem_cons_of_mem _ h1,by omega⟩
end H
namespace H
open P
set_option maxHeartbeats 2000000 in
set_option maxRecDepth 100000 in
theorem go_calls (n0:Int) (Zb:Bool) (A2:Option Addr) (c2:Nat) (l:List S74) (gF cF:Nat) (F:List Int) (s:S38) (k:Int) (w:World)
  (hF:IsI w gF F) {i:Nat} (hi:i<F.length) (hs:s.f0=i) (hk: -9223372036854775808<k∧k≤9223372036854775807)
  (h1:s.f1=false→ -9223372036854775808≤F.getD i 0+k∧F.getD i 0+k≤9223372036854775807) (h2:s.f1=true→ -9223372036854775808≤F.getD i 0 - k∧F.getD i 0 - k≤9223372036854775807):
  Calls Try.prog 154 #[.agg #[.int .i64 n0, .bool Zb, .slice A2 l.length c2, .slice (some ⟨gF,0,none⟩) F.length cF], .agg #[.int .i64 s.f0, .bool s.f1], .int .i64 k] w fun e w'=>e= .returned (.tuple #[])∧IsI w' gF (goS F s k)∧Ks (fun b=>b=gF) w w':=by
 have hu115:=Try.underlying115;have hu38:=Try.underlying38;obtain⟨x,y⟩:=s;simp only at hs h1 h2;subst hs;have HF:=Ya hF;have hg:=hF.lt;clear hF;cases y
 ·have hb:=h1 rfl
  have hwr:IntKind.i64.wrap (F.getD i 0+k)=F.getD i 0+k:=IntWalk.i64_in _ (by omega);clear h1 h2;obtain⟨y0,hy0⟩: ∃ y,y=F.getD i 0:=⟨_,rfl⟩;rw[← hy0] at hwr hb;have HY:=Ya hy0;clear hy0;go_enter Try.func154,Try.ntmps154;go_upto_region 1 with (first|((with_reducible refine gate_dst (N:=3) rfl ?_);refine Yz ?hg (N:=3) ?hd (cs:= #[.int .i64 n0, .bool Zb, .slice A2 l.length c2, .slice (some ⟨gF,0,none⟩) F.length cF]) (t:=115) ?hr ?_;(case hd=>rfl);(case hg=>rfl);(case hr=>first|(go_simp;done)|(go_simp;rfl));intro g3 hg3 w3 Zf hb;have B3:=Ya Zf;have HB3:=Ya hb;have G3:Aside0 (w.heap.size≤g3):=⟨Nat.le_of_eq hg3.symm⟩;clear hg3;have m0_:=Ya (HF.out.below hb);clear HF hb Zf;have HF:=m0_;clear m0_)|((with_reducible refine gate_dst (N:=4) rfl ?_);refine Yz ?hg (N:=4) ?hd (cs:= #[.int .i64 (i:Int), .bool false]) (t:=38) ?hr ?_;(case hd=>rfl);(case hg=>rfl);(case hr=>first|(go_simp;done)|(go_simp;rfl));intro g4 hg4 w4 Zf hb;have B4:=Ya Zf;have G4:Aside0 (w.heap.size≤g4):=⟨Nat.le_trans HB3.out.size (Nat.le_of_eq hg4.symm)⟩;clear hg4;have HB4:=Ya (Yk HB3.out hb);have m0_:=Ya (HF.out.below hb);have m1_:=Ya (Yn B3.out hb);clear HF B3 HB3 hb Zf;have HF:=m0_;have B3:=m1_;clear m0_ m1_;have a3:w4.cell? ⟨g3,3,none⟩=some (.slice (some ⟨gF,0,none⟩) F.length cF):=(Yc B3.out 3).trans rfl;have b0:w4.cell? ⟨g4,0,none⟩=some (.int .i64 (i:Int)):=(Yc B4.out 0).trans rfl;have b1:w4.cell? ⟨g4,1,none⟩=some (.bool false):=(Yc B4.out 1).trans rfl)|fail)
  have c0:=HF.out.cell hi;have f0:=HF.out.free i;rw[← HY.out] at c0;go_wp2_with fail;refine bodyPost_end (results_none rfl _ _ _) rfl ⟨rfl,?_,(Ks.of_below HB4.out (fun b=>b=gF)).set (g:=gF) (fun _=>rfl) i _⟩;have e:goS F ⟨(i:Int),false⟩ k=F.set i (y0+k):=by unfold goS;simp[HY.out,Int.sub_eq_add_neg]
  rw[e];exact HF.out.put i _
 ·have hb:=h2 rfl
  have hwr:IntKind.i64.wrap (F.getD i 0+ -k)=F.getD i 0+ -k:=IntWalk.i64_in _ (by omega);have hwn:IntKind.i64.wrap (-k)= -k:=IntWalk.i64_in _ (by omega);clear h1 h2;obtain⟨y0,hy0⟩: ∃ y,y=F.getD i 0:=⟨_,rfl⟩;rw[← hy0] at hwr hb;have HY:=Ya hy0;clear hy0;go_enter Try.func154,Try.ntmps154;go_upto_region 1 with (first|((with_reducible refine gate_dst (N:=3) rfl ?_);refine Yz ?hg (N:=3) ?hd (cs:= #[.int .i64 n0, .bool Zb, .slice A2 l.length c2, .slice (some ⟨gF,0,none⟩) F.length cF]) (t:=115) ?hr ?_;(case hd=>rfl);(case hg=>rfl);(case hr=>first|(go_simp;done)|(go_simp;rfl));intro g3 hg3 w3 Zf hb;have B3:=Ya Zf;have HB3:=Ya hb;have G3:Aside0 (w.heap.size≤g3):=⟨Nat.le_of_eq hg3.symm⟩;clear hg3;have m0_:=Ya (HF.out.below hb);clear HF hb Zf;have HF:=m0_;clear m0_)|((with_reducible refine gate_dst (N:=4) rfl ?_);refine Yz ?hg (N:=4) ?hd (cs:= #[.int .i64 (i:Int), .bool true]) (t:=38) ?hr ?_;(case hd=>rfl);(case hg=>rfl);(case hr=>first|(go_simp;done)|(go_simp;rfl));intro g4 hg4 w4 Zf hb;have B4:=Ya Zf;have G4:Aside0 (w.heap.size≤g4):=⟨Nat.le_trans HB3.out.size (Nat.le_of_eq hg4.symm)⟩;clear hg4;have HB4:=Ya (Yk HB3.out hb);have m0_:=Ya (HF.out.below hb);have m1_:=Ya (Yn B3.out hb);clear HF B3 HB3 hb Zf;have HF:=m0_;have B3:=m1_;clear m0_ m1_;have a3:w4.cell? ⟨g3,3,none⟩=some (.slice (some ⟨gF,0,none⟩) F.length cF):=(Yc B3.out 3).trans rfl;have b0:w4.cell? ⟨g4,0,none⟩=some (.int .i64 (i:Int)):=(Yc B4.out 0).trans rfl;have b1:w4.cell? ⟨g4,1,none⟩=some (.bool true):=(Yc B4.out 1).trans rfl)|fail)
  have c0:=HF.out.cell hi;have f0:=HF.out.free i;rw[← HY.out] at c0;go_wp2_with fail;refine bodyPost_end (results_none rfl _ _ _) rfl ⟨rfl,?_,(Ks.of_below HB4.out (fun b=>b=gF)).set (g:=gF) (fun _=>rfl) i _⟩;have e:goS F ⟨(i:Int),true⟩ k=F.set i (y0+ -k):=by unfold goS;simp[HY.out,Int.sub_eq_add_neg]
  rw[e];exact HF.out.put i _
def minF (l:List S74) (F:List Int):Int→List S38→Int
 |a,[]=>a
 |a,s::L=>minF l F (min a (stRoom l F s)) L
theorem minF_least (l:List S74) (F:List Int): ∀ (L:List S38) (a:Int),L≠[]→minF l F a L=min a (leastR l F L)
 |[],a,h=>absurd rfl h
 |[s],a,_=>rfl
 |s::t::L,a,_=>by
  show minF l F (min a (stRoom l F s)) (t::L)=_;rw[minF_least l F (t::L) _ (by simp)];show _=min a (min (stRoom l F s) (leastR l F (t::L)));omega
theorem minF_cons (l:List S74) (F:List Int) (s:S38) (L:List S38):minF l F (stRoom l F s) L=leastR l F (s::L):=by
 cases L with
 |nil=>rfl
 |cons t L=>rw[minF_least l F (t::L) _ (by simp)];rfl
attribute [local go_sem] max2_int min2_int max_two min_two
set_option maxHeartbeats 2000000 in
set_option maxRecDepth 100000 in
theorem least_calls (n0:Nat) (Zb:Bool) (A2:Option Addr) (c2:Nat) (l:List S74) (A3:Option Addr) (c3:Nat) (F:List Int) (g cW:Nat) (W:List S38) (w:World)
  (hR:Right l F n0) (hW: ∀ s,s∈W→StepOf l s) (hne:0<W.length) (hl:W.length≤1000000) (hcW:W.length≤cW)
  (hc: ∀ (j:Nat) (e:S38),W[j]? =some e→w.cell? ⟨g,j * 2,none⟩=some (.int .i64 e.f0)∧w.cell? ⟨g,j * 2+1,none⟩=some (.bool e.f1))
  (hc2:l.length≤c2) (hc3:F.length≤c3) (h2:Kd.C k74 w A2 l.length l) (h3:Kd.C (Kd.int .i64) w A3 F.length F):
  Calls Try.prog 153 #[.agg #[.int .i64 (n0:Int), .bool Zb, .slice A2 l.length c2, .slice A3 F.length c3], .slice (some ⟨g,0,none⟩) W.length cW] w fun e w'=>e= .returned (.int .i64 (leastR l F W))∧Below w.heap.size w w':=by
 have hu115:=Try.underlying115;have hu38:=Try.underlying38;have HR:=Ya hR;have HC:=Ya hc;have HW:=Ya hW;have HC2:=Ya hc2;have HC3:=Ya hc3;have H2:=Ya h2;have H3:=Ya h3;obtain⟨e0,he0⟩: ∃ e,W[0]? =some e:=⟨_,List.getElem?_eq_getElem hne⟩;have hm0:=List.mem_of_getElem? he0;have HFM:=Ya (room_f hR (hW e0 hm0) (n0:Int) Zb);have HE0:=Ya he0;have p1:(0:Int)<(W.length:Int):=by omega
 have p2:(1:Int)≤(W.length:Int):=by omega
 clear hR hc hW hc2 hc3 h2 h3 he0 hm0;go_enter Try.func153,Try.ntmps153;go_upto_region 1 with (first|((with_reducible refine gate_dst (N:=2) rfl ?_);refine Yz ?hg (N:=2) ?hd (cs:= #[.int .i64 (n0:Int), .bool Zb, .slice A2 l.length c2, .slice A3 F.length c3]) (t:=115) ?hr ?_;(case hd=>rfl);(case hg=>rfl);(case hr=>first|(go_simp;done)|(go_simp;rfl));intro g2 hg2 w3 Zf hb;have B2:=Ya Zf;have HB:=Ya hb;clear hg2 hb Zf)|fail)
 have a0:w3.cell? ⟨g2,0,none⟩=some (.int .i64 n0):=(Yc B2.out 0).trans rfl;have a1:w3.cell? ⟨g2,1,none⟩=some (.bool Zb):=(Yc B2.out 1).trans rfl;have a2:w3.cell? ⟨g2,2,none⟩=some (.slice A2 l.length c2):=(Yc B2.out 2).trans rfl;have a3:w3.cell? ⟨g2,3,none⟩=some (.slice A3 F.length c3):=(Yc B2.out 3).trans rfl;obtain⟨b0,b1⟩:=HC.out 0 e0 HE0.out;replace b0:=pw_cell_below HB.out b0;replace b1:=pw_cell_below HB.out b1;have q0: ∀ p:BelowW w3,p.at_.cell? ⟨g2,0,none⟩=some (.int .i64 n0):=fun p=>p.cell a0
 have q1: ∀ p:BelowW w3,p.at_.cell? ⟨g2,1,none⟩=some (.bool Zb):=fun p=>p.cell a1
 have q2: ∀ p:BelowW w3,p.at_.cell? ⟨g2,2,none⟩=some (.slice A2 l.length c2):=fun p=>p.cell a2
 have q3: ∀ p:BelowW w3,p.at_.cell? ⟨g2,3,none⟩=some (.slice A3 F.length c3):=fun p=>p.cell a3
 have q4: ∀ p:BelowW w3,p.at_.cell? ⟨g,0,none⟩=some (.int .i64 e0.f0):=fun p=>p.cell (by simpa using b0)
 have q5: ∀ p:BelowW w3,p.at_.cell? ⟨g,1,none⟩=some (.bool e0.f1):=fun p=>p.cell (by simpa using b1)
 have HCA:Aside0 (∀ p:BelowW w3,Kd.C k74 p.at_ A2 l.length l):=⟨fun p=>Yt (Yt H2.out HB.out) p.below⟩;have HCF:Aside0 (∀ p:BelowW w3,Kd.C (Kd.int .i64) p.at_ A3 F.length F):=⟨fun p=>Yt (Yt H3.out HB.out) p.below⟩;clear a0 a1 a2 a3 b0 b1;refine wp_region_quiet_below (by kernel_rfl) (by kernel_rfl) ?_;(repeat(quiet_step ((first|(go_at_call 104;exact calls_below_of (static_Flowing_Room.calls (n0:Int) Zb A2 c2 l A3 c3 F e0.f0 e0.f1 _ _ (HCA.out _) HC2.out (HCF.out _) HC3.out HFM.out))))));refine wpQuiet_nil ?_;intro wq hw';obtain⟨⟨wz,hbq⟩,hwq⟩:=hw';subst hwq;have m0_:=Ya (Yk HB.out hbq);have m1_:=Ya (Yn B2.out hbq);clear HB B2 hbq q0 q1 q2 q3 q4 q5 HCA HCF;have HB:=m0_;have B2:=m1_;clear m0_ m1_;go_upto_region 2 with fail
 go_cut [14,15,16] (fun v14 v15 v16 wx=> ∃ oz cz:Nat,v14= .slice (some ⟨g,oz,none⟩) (W.length - 1) cz∧(1<W.length→oz=2)∧v15= .int .i64 ((W.length - 1:Nat):Int)∧v16= .int .i64 0∧wx=wq)
 case first=>
  by_cases hcap:cW=1
  ·have e9:W.length=1:=by omega
   go_wp2_with fail;go_meet;exact⟨0,0,by simp[e9],fun h=>by omega,by simp[e9],rfl,rfl⟩
  ·go_wp2_with fail
   go_meet;exact⟨2,_,rfl,fun h=>rfl,rfl,rfl,rfl⟩
 case rest=>
  obtain⟨oz,cz,rfl,hoz,rfl,rfl,rfl⟩:=hcut;go_wp2_with fail;go_loopw [5,16] (fun v5 v16 w'=> ∃ (a:Int) (j:Nat),v5= .int .i64 a∧v16= .int .i64 (j:Int)∧j+1≤W.length∧Aside0 (minF l F a (W.drop (j+1))=leastR l F W)∧Aside0 (w'.heap[g2]? =some (.cells #[.int .i64 (n0:Int), .bool Zb, .slice A2 l.length c2, .slice A3 F.length c3] 115 (0,0)))∧Aside0 (Below w.heap.size w w')) (fun _ v16 _=>W.length - (intOf v16).toNat)
  case atStart=>exact⟨stRoom l F e0,0,rfl,rfl,by omega,⟨by
   have hd:W=e0::W.drop 1:=by
    obtain⟨h1,h2⟩:=List.getElem?_eq_some_iff.1 HE0.out;have h_:=List.drop_eq_getElem_cons (i:=0) (l:=W) (by omega);rw[List.drop_zero,h2] at h_;exact h_
   rw[Nat.zero_add,minF_cons, ← hd]⟩,B2,HB⟩
  case round=>
   clear B2 HB;obtain⟨a,j,rfl,rfl,hj,HM,B2,HB⟩:=hrel;by_cases hlt:j+1<W.length
   ·have e1:decide ((j:Int)<((W.length - 1:Nat):Int))=true:=Yv (by omega)
    obtain rfl:=hoz (by omega);obtain⟨e,he⟩: ∃ e,W[j+1]? =some e:=⟨_,List.getElem?_eq_getElem hlt⟩;obtain⟨b0,b1⟩:=HC.out (j+1) e he;have b0:wr.cell? ⟨g,2+j * 2,none⟩=some (.int .i64 e.f0):=by rw[show 2+j * 2=(j+1) * 2 by omega];exact pw_cell_below HB.out b0
    have b1:wr.cell? ⟨g,2+j * 2+1,none⟩=some (.bool e.f1):=by rw[show 2+j * 2=(j+1) * 2 by omega];exact pw_cell_below HB.out b1
    have HFM2:=Ya (room_f HR.out (HW.out e (List.mem_of_getElem? he)) (n0:Int) Zb);have hM2:minF l F (min a (stRoom l F e)) (W.drop (j+1+1))=leastR l F W:=by
     rw[← HM.out];obtain⟨h1,h2⟩:=List.getElem?_eq_some_iff.1 he;rw[List.drop_eq_getElem_cons h1,h2];rfl
    obtain⟨rm,hrm⟩: ∃ r_,r_=stRoom l F e:=⟨_,rfl⟩;rw[← hrm] at hM2;rw[← hrm] at HFM2;clear he hrm;have q1:(0:Int)≤(j:Int):=by omega
    have q2:(j:Int)<((W.length - 1:Nat):Int):=by omega
    go_upto_region 5 with fail
    have HN:Aside0 ((wr.alloc (.cells #[.int .i64 e.f0, .bool e.f1] 38)).heap[wr.heap.size]? =some (.cells #[.int .i64 e.f0, .bool e.f1] 38 (0,0))):=⟨heap_alloc_new _ _⟩;have m0_:=Ya (Ye HB.out (.cells #[.int .i64 e.f0, .bool e.f1] 38));have m1_:=Ya (Yn B2.out (Ye (Yo _ _) (.cells #[.int .i64 e.f0, .bool e.f1] 38)));clear HB B2 b0 b1;have HB:=m0_;have B2:=m1_;clear m0_ m1_;generalize wr.alloc (.cells #[.int .i64 e.f0, .bool e.f1] 38)=w5 at *;generalize wr.heap.size=g7 at *;have a0:w5.cell? ⟨g2,0,none⟩=some (.int .i64 n0):=(Yc B2.out 0).trans rfl;have a1:w5.cell? ⟨g2,1,none⟩=some (.bool Zb):=(Yc B2.out 1).trans rfl;have a2:w5.cell? ⟨g2,2,none⟩=some (.slice A2 l.length c2):=(Yc B2.out 2).trans rfl;have a3:w5.cell? ⟨g2,3,none⟩=some (.slice A3 F.length c3):=(Yc B2.out 3).trans rfl;have b0:w5.cell? ⟨g7,0,none⟩=some (.int .i64 e.f0):=(Yc HN.out 0).trans rfl;have b1:w5.cell? ⟨g7,1,none⟩=some (.bool e.f1):=(Yc HN.out 1).trans rfl;have hmn:(if rm<a then rm else a)=min a rm:=by split<;>omega
    go_wp2_with (first|(go_at_call 104;refine(static_Flowing_Room.calls (n0:Int) Zb A2 c2 l A3 c3 F e.f0 e.f1 _ _ (Yt H2.out HB.out) HC2.out (Yt H3.out HB.out) HC3.out HFM2.out).mono ?_;rintro e_ w6 ⟨rfl,hb⟩;have m0_:=Ya (Yk HB.out hb);have m1_:=Ya (Yn B2.out hb);clear HB B2 a0 a1 a2 a3 b0 b1 hb;have HB:=m0_;have B2:=m1_;clear m0_ m1_)|fail);go_roundw
    case rel=>exact⟨min a rm,j+1,rfl,by go_num,by omega,⟨hM2⟩,B2,HB⟩
    case measure=>show W.length - ((j:Int)+1).toNat<W.length - (j:Int).toNat;omega
   ·have e1:decide ((j:Int)<((W.length - 1:Nat):Int))=false:=Yw (by omega)
    have hr:a=leastR l F W:=by
     rw[← HM.out,List.drop_of_length_le (by omega)];rfl
    have HRR:=Ya hr;clear hr;go_wp2_with fail;go_ret;exact⟨by rw[← HRR.out];rfl,HB.out⟩
end H
namespace H
section
variable {α:Type}
structure Net_ (α:Type) where
 rows:Nat→List α
 to_:α→Nat
 fr:α→Nat
 D:Nat→Int
 ok:α→Bool
def Net_.adm (g:Net_ α) (u:Nat) (e:α):Bool:=decide (g.D (g.to_ e)=g.D u+1) && g.ok e
def scanG (p:α→Bool):List α→Nat→Option (Nat × α)
 |[],_=>none
 |e::r,j=>if p e then some (j,e) else scanG p r (j+1)
theorem scanG_some {p:α→Bool} : ∀ {r:List α} {i j:Nat} {e:α},scanG p r i=some (j,e)→i≤j∧r[j - i]? =some e∧p e=true∧ ∀ q,q<j - i→ ∀ x,r[q]? =some x→p x=false
 |[],_,_,_,h=>by cases h
 |x::r,i,j,e,h=>by
  unfold scanG at h;by_cases hp:p x=true
  ·rw[Yx hp] at h
   injection h with h
   injection h with h1 h2
   subst h1;subst h2;exact⟨Nat.le_refl _,by simp,hp,fun q hq=>by omega⟩
  ·rw[Yy hp] at h
   obtain⟨h1,h2,h3,h4⟩:=scanG_some h;refine⟨by omega,?_,h3,fun q hq y hy=> ?_⟩
   ·rw[show j - i=(j - (i+1))+1 by omega,List.getElem?_cons_succ]
    exact h2
   ·cases q with
    |zero=>simp at hy;rw[← hy];simpa using hp
    |succ q=>rw[List.getElem?_cons_succ] at hy;exact h4 q (by omega) y hy
theorem scanG_none {p:α→Bool} : ∀ {r:List α} {i:Nat},scanG p r i=none→ ∀ x,x∈r→p x=false
 |[],_,_,x,hx=>by cases hx
 |y::r,i,h,x,hx=>by
  unfold scanG at h;by_cases hp:p y=true
  ·rw[Yx hp] at h;cases h
  ·rw[Yy hp] at h
   rcases List.mem_cons.1 hx with rfl|hx
   ·simpa using hp
   ·exact scanG_none h x hx
def downG (g:Net_ α) (s t:Nat):Nat→Nat→List α→List Nat→Option (List α) × List Nat
 |0,_,_,nx=>(none,nx)
 |k+1,v,way,nx=>
  if v=t then(some way,nx) else
  match scanG (g.adm v) ((g.rows v).drop (nx.getD v 0)) (nx.getD v 0) with
  |some (j,e)=>downG g s t k (g.to_ e) (way ++ [e]) (nx.set v j)
  |none=>if v=s then(none,nx.set v (g.rows v).length) else match way.getLast? with
   |none=>(none,nx)
   |some e=>downG g s t k (g.fr e) way.dropLast ((nx.set v (g.rows v).length).set (g.fr e) ((nx.set v (g.rows v).length).getD (g.fr e) 0+1))
def remG (g:Net_ α) (nx:List Nat):Nat→Nat
 |0=>0
 |n+1=>remG g nx n+((g.rows n).length - nx.getD n 0)
theorem remG_set (g:Net_ α) (nx:List Nat) (v j:Nat) (hv:v<nx.length) (h1:nx.getD v 0≤j) (h2:j≤(g.rows v).length) (n:Nat):remG g (nx.set v j) n+(if v<n then j - nx.getD v 0 else 0)=remG g nx n:=by
 induction n with
 |zero=>simp[remG]
 |succ n ih=>
  unfold remG;by_cases e:v=n
  ·subst e
   have e1:(nx.set v j).getD v 0=j:=by rw[List.getD_eq_getElem?_getD,List.getElem?_set_self hv];rfl
   rw[e1,Yx (by omega)];rw[Yy (by omega)] at ih;omega
  ·have e1:(nx.set v j).getD n 0=nx.getD n 0:=by rw[List.getD_eq_getElem?_getD,List.getElem?_set_ne e, ← List.getD_eq_getElem?_getD]
   rw[e1];by_cases h:v<n
   ·rw[Yx h] at ih;rw[Yx (by omega)];omega
   ·rw[Yy h] at ih;rw[Yy (by omega)];omega
structure DInv (g:Net_ α) (s n v:Nat) (way:List α) (nx:List Nat):Prop where
 vn:v<n
 len:nx.length=n
 le: ∀ u,u<n→nx.getD u 0≤(g.rows u).length
 trail:Leads g.to_ g.rows s way v
 adm: ∀ e,e∈way→g.adm (g.fr e) e=true
 at_: ∀ e,e∈way→(g.rows (g.fr e))[nx.getD (g.fr e) 0]? =some e
structure Net_.Fine (g:Net_ α) (s n:Nat):Prop where
 hfr: ∀ u e,e∈g.rows u→g.fr e=u
 hto: ∀ u e,e∈g.rows u→g.to_ e<n
 sn:s<n
 hs:g.D s=0
 hD: ∀ v,v<n→g.D v<n
theorem adm_lv {g:Net_ α} {u:Nat} {e:α} (h:g.adm u e=true):g.D (g.to_ e)=g.D u+1∧g.ok e=true:=by
 unfold Net_.adm at h;rw[Bool.and_eq_true,decide_eq_true_eq] at h;exact h
theorem leads_lv {g:Net_ α} (hfr: ∀ u e,e∈g.rows u→g.fr e=u): ∀ {way:List α} {s v:Nat},Leads g.to_ g.rows s way v→(∀ e,e∈way→g.adm (g.fr e) e=true)→g.D s≤g.D v∧ ∀ e,e∈way→g.D s≤g.D (g.fr e)∧g.D (g.fr e)<g.D v
 |[],s,v,h,_=>by cases h;exact⟨Int.le_refl _,fun e he=>by cases he⟩
 |x::way,s,v,h,ha=>by
  have hx:=adm_lv (ha x List.mem_cons_self);rw[hfr _ _ h.1] at hx;obtain⟨h1,h2⟩:=leads_lv hfr h.2 (fun e he=>ha e (List.mem_cons_of_mem _ he));refine⟨by omega,fun e he=> ?_⟩;rcases List.mem_cons.1 he with rfl|he
  ·rw[hfr _ _ h.1];omega
  ·have:=h2 e he;omega
theorem leads_last {to_:α→Nat} {es:Nat→List α} : ∀ {way:List α} {s v:Nat} {e:α},Leads to_ es s way v→way.getLast? =some e→ ∃ u,Leads to_ es s way.dropLast u∧e∈es u∧to_ e=v
 |[],_,_,_,_,h=>by simp at h
 |[x],s,v,e,h,hl=>by
  simp at hl;subst hl;exact⟨s,rfl,h.1,h.2⟩
 |x::y::way,s,v,e,h,hl=>by
  obtain⟨u,h1,h2,h3⟩:=leads_last h.2 (by simpa using hl);exact⟨u,⟨h.1,h1⟩,h2,h3⟩
theorem dropLast_mem {way:List α} {e:α} (h:e∈way.dropLast):e∈way:=List.dropLast_subset _ h
def Useless (g:Net_ α) (t n:Nat) (nx:List Nat) (w:Nat):Prop:=w≠t∧w<n∧nx.getD w 0=(g.rows w).length
def Dead (g:Net_ α) (t n:Nat) (nx:List Nat):Prop:= ∀ u,u<n→ ∀ j,j<nx.getD u 0→ ∀ e,(g.rows u)[j]? =some e→g.adm u e=true→Useless g t n nx (g.to_ e)
theorem getD_setN (nx:List Nat) (v j u:Nat) (hv:v<nx.length):(nx.set v j).getD u 0=if u=v then j else nx.getD u 0:=by
 by_cases e:u=v
 ·subst e
  rw[Yx rfl,List.getD_eq_getElem?_getD,List.getElem?_set_self hv];rfl
 ·rw[Yy e,List.getD_eq_getElem?_getD,List.getElem?_set_ne (Ne.symm e), ← List.getD_eq_getElem?_getD]
theorem DInv.go {g:Net_ α} {s n v:Nat} {way:List α} {nx:List Nat} (hg:g.Fine s n) (h:DInv g s n v way nx) {j:Nat} {e:α} (hj:nx.getD v 0≤j) (he:(g.rows v)[j]? =some e) (ha:g.adm v e=true):
  DInv g s n (g.to_ e) (way ++ [e]) (nx.set v j):=by
 have hm:e∈g.rows v:=List.mem_of_getElem? he;have hv:=h.vn;have hl:=h.len;have hjl:=(List.getElem?_eq_some_iff.1 he).1;have hlv:=(leads_lv hg.hfr h.trail h.adm).2;refine⟨hg.hto _ _ hm,by rw[List.length_set];exact hl,fun u hu=> ?_,h.trail.snoc hm,fun x hx=> ?_,fun x hx=> ?_⟩
 ·rw[getD_setN _ _ _ _ (by omega)]
  split
  ·rename_i eu;subst eu;omega
  ·exact h.le u hu
 ·rcases List.mem_append.1 hx with hx|hx
  ·exact h.adm x hx
  ·rw[List.mem_singleton.1 hx,hg.hfr _ _ hm];exact ha
 ·rw[getD_setN _ _ _ _ (by omega)]
  rcases List.mem_append.1 hx with hx|hx
  ·have:=hlv x hx
   rw[Yy (fun e=>by rw[e] at this;omega)];exact h.at_ x hx
  ·rw[List.mem_singleton.1 hx,hg.hfr _ _ hm,Yx rfl];exact he
theorem DInv.back {g:Net_ α} {s n v:Nat} {way:List α} {nx:List Nat} (hg:g.Fine s n) (h:DInv g s n v way nx) {e:α} (hl:way.getLast? =some e):
  DInv g s n (g.fr e) way.dropLast ((nx.set v (g.rows v).length).set (g.fr e) ((nx.set v (g.rows v).length).getD (g.fr e) 0+1))∧g.fr e≠v∧g.to_ e=v∧g.D v=g.D (g.fr e)+1∧g.fr e<n∧e∈way:=by
 obtain⟨u,h1,h2,h3⟩:=leads_last h.trail hl;have hm:e∈way:=List.mem_of_getLast? hl;have eu:=hg.hfr _ _ h2;subst eu;have ha:=adm_lv (h.adm e hm);rw[h3] at ha;have hlen:=h.len;have hv:=h.vn;have hne:g.fr e≠v:=fun e'=>by rw[e'] at ha;omega
 have hat:=h.at_ e hm;have hat2:=(List.getElem?_eq_some_iff.1 hat).1;have hun:g.fr e<n:=by
  cases hd:way.dropLast with
  |nil=>
   rw[hd] at h1;have:s=g.fr e:=h1;rw[← this];exact hg.sn
  |cons x r=>
   obtain⟨w,q1,q2,q3⟩:=leads_last h1 (e:=(way.dropLast.getLast?).getD x) (by rw[hd];simp[List.getLast?_cons]);rw[← q3];exact hg.hto _ _ q2
 have hlv:=(leads_lv hg.hfr h1 (fun x hx=>h.adm x (dropLast_mem hx))).2;refine⟨⟨hun,by rw[List.length_set,List.length_set];exact hlen,fun w hw=> ?_,h1,fun x hx=>h.adm x (dropLast_mem hx),fun x hx=> ?_⟩,hne,h3,ha.1,hun,hm⟩
 ·rw[getD_setN _ _ _ _ (by rw[List.length_set];omega),getD_setN _ _ _ _ (by omega),getD_setN _ _ _ _ (by omega),Yy hne]
  split
  ·rename_i ew;subst ew;omega
  ·split
   ·rename_i ew;subst ew;exact Nat.le_refl _
   ·exact h.le w hw
 ·have hx1:=hlv x hx
  have hx2:=(leads_lv hg.hfr h.trail h.adm).2 x (dropLast_mem hx);rw[getD_setN _ _ _ _ (by rw[List.length_set];omega),Yy (fun e'=>by rw[e'] at hx1;omega),getD_setN _ _ _ _ (by omega),Yy (fun e'=>by rw[e'] at hx2;omega)];exact h.at_ x (dropLast_mem hx)
def downM (g:Net_ α) (n v:Nat) (nx:List Nat):Nat:=remG g nx n * (n+1)+(n - (g.D v).toNat)
theorem downM_go {g:Net_ α} {s n v:Nat} {way:List α} {nx:List Nat} (hg:g.Fine s n) (h:DInv g s n v way nx) {j:Nat} {e:α} (hj:nx.getD v 0≤j) (he:(g.rows v)[j]? =some e) (ha:g.adm v e=true):
  downM g n (g.to_ e) (nx.set v j)<downM g n v nx:=by
 have hm:e∈g.rows v:=List.mem_of_getElem? he;have hjl:=(List.getElem?_eq_some_iff.1 he).1;have hv:=h.vn;have hl:=h.len;have h1:=remG_set g nx v j (by omega) hj (by omega) n;have h2:remG g (nx.set v j) n * (n+1)≤remG g nx n * (n+1):=Nat.mul_le_mul_right _ (by omega);have h3:=(adm_lv ha).1;have h4:=hg.hD _ (hg.hto _ _ hm);have h5:=(leads_lv hg.hfr h.trail h.adm).1;have h6:=hg.hs;unfold downM;omega
theorem downM_back {g:Net_ α} {s n v:Nat} {way:List α} {nx:List Nat} (hg:g.Fine s n) (h:DInv g s n v way nx) {e:α} (hl:way.getLast? =some e):
  downM g n (g.fr e) ((nx.set v (g.rows v).length).set (g.fr e) ((nx.set v (g.rows v).length).getD (g.fr e) 0+1))<downM g n v nx:=by
 obtain⟨_,hne,h3,hD,hun,hm⟩:=h.back hg hl;have hv:=h.vn;have hlen:=h.len;have hat2:=(List.getElem?_eq_some_iff.1 (h.at_ e hm)).1;have e1:(nx.set v (g.rows v).length).getD (g.fr e) 0=nx.getD (g.fr e) 0:=by rw[getD_setN _ _ _ _ (by omega),Yy hne]
 have h1:=remG_set g nx v (g.rows v).length (by omega) (h.le v hv) (Nat.le_refl _) n;have h2:=remG_set g (nx.set v (g.rows v).length) (g.fr e) (nx.getD (g.fr e) 0+1) (by rw[List.length_set];omega) (by rw[e1];omega) (by omega) n;rw[Yx hun,e1] at h2;rw[e1];have h4:remG g ((nx.set v (g.rows v).length).set (g.fr e) (nx.getD (g.fr e) 0+1)) n+1≤remG g nx n:=by omega
 have h5:=Nat.mul_le_mul_right (n+1) h4;rw[Nat.add_mul,Nat.one_mul] at h5;have h6:=(leads_lv hg.hfr h.trail h.adm).2 e hm;have h7:=hg.hs;have h8:=hg.hD v hv;unfold downM;omega
structure Found (g:Net_ α) (s t n:Nat) (r:Option (List α) × List Nat):Prop where
 len:r.2.length=n
 le: ∀ u,u<n→r.2.getD u 0≤(g.rows u).length
 way: ∀ L,r.1=some L→Leads g.to_ g.rows s L t∧ ∀ e,e∈L→g.adm (g.fr e) e=true
 none_:r.1=none→r.2.getD s 0=(g.rows s).length
theorem drop_head {r:List α} {i j:Nat} (h:i≤j):(r.drop i)[j - i]? =r[j]? :=by
 rw[List.getElem?_drop];congr 1;omega
theorem downG_found {g:Net_ α} {s t n:Nat} (hg:g.Fine s n) (k:Nat): ∀ {v:Nat} {way:List α} {nx:List Nat},DInv g s n v way nx→downM g n v nx<k→Found g s t n (downG g s t k v way nx):=by
 induction k with
 |zero=>intro v way nx h hk;omega
 |succ k ih=>
  intro v way nx h hk;unfold downG;by_cases hvt:v=t
  ·rw[Yx hvt]
   exact⟨h.len,h.le,fun L hL=>by injection hL with hL;subst hL;exact⟨hvt▸h.trail,h.adm⟩,fun e=>by cases e⟩
  ·rw[Yy hvt]
   cases hs:scanG (g.adm v) ((g.rows v).drop (nx.getD v 0)) (nx.getD v 0) with
   |some p=>
    obtain⟨j,e⟩:=p;obtain⟨h1,h2,h3,_⟩:=scanG_some hs;rw[drop_head h1] at h2;have:=downM_go hg h h1 h2 h3;exact ih (h.go hg h1 h2 h3) (by omega)
   |none=>
    have hv:=h.vn;have hl:=h.len;by_cases hvs:v=s
    ·show Found g s t n (if v=s then _ else _)
     rw[Yx hvs];refine⟨by rw[List.length_set];exact h.len,fun u hu=> ?_,fun L hL=>(by cases hL),fun _=> ?_⟩
     ·show (nx.set v _).getD u 0≤_
      rw[getD_setN _ _ _ _ (by omega)];split
      ·rename_i e;subst e;exact Nat.le_refl _
      ·exact h.le u hu
     ·show (nx.set v _).getD s 0=_
      rw[getD_setN _ _ _ _ (by omega),Yx hvs.symm,hvs]
    ·show Found g s t n (if v=s then _ else _)
     rw[Yy hvs];cases hw:way.getLast? with
     |none=>
      rw[List.getLast?_eq_none_iff] at hw;subst hw;exact absurd h.trail.symm hvs
     |some e=>
      have:=downM_back hg h hw;exact ih (h.back hg hw).1 (by omega)
theorem downG_dead {g:Net_ α} {s t n:Nat} (hg:g.Fine s n) (k:Nat): ∀ {v:Nat} {way:List α} {nx:List Nat},DInv g s n v way nx→downM g n v nx<k→Dead g t n nx→Dead g t n (downG g s t k v way nx).2:=by
 induction k with
 |zero=>intro v way nx h hk;omega
 |succ k ih=>
  intro v way nx h hk hd;unfold downG;by_cases hvt:v=t
  ·rw[Yx hvt];exact hd
  ·rw[Yy hvt]
   have hv:=h.vn;have hl:=h.len;cases hs:scanG (g.adm v) ((g.rows v).drop (nx.getD v 0)) (nx.getD v 0) with
   |some p=>
    obtain⟨j,e⟩:=p;obtain⟨h1,h2,h3,h4⟩:=scanG_some hs;rw[drop_head h1] at h2;have hjl:=(List.getElem?_eq_some_iff.1 h2).1;have:=downM_go hg h h1 h2 h3;refine ih (h.go hg h1 h2 h3) (by omega) ?_;have hu: ∀ w,Useless g t n nx w→Useless g t n (nx.set v j) w:=by
     rintro w ⟨a,b,c⟩;refine⟨a,b,?_⟩;rw[getD_setN _ _ _ _ (by omega)];split
     ·rename_i ew;subst ew;omega
     ·exact c
    intro u hu2 q hq x hx hax;rw[getD_setN _ _ _ _ (by omega)] at hq;by_cases ev:u=v
    ·subst ev
     rw[Yx rfl] at hq;by_cases hq2:q<nx.getD u 0
     ·exact hu _ (hd u hu2 q hq2 x hx hax)
     ·exfalso
      have:=h4 (q - nx.getD u 0) (by omega) x (by rw[drop_head (by omega)];exact hx);rw[this] at hax;cases hax
    ·rw[Yy ev] at hq
     exact hu _ (hd u hu2 q hq x hx hax)
   |none=>
    have hsn:=scanG_none hs;have hd1:Dead g t n (nx.set v (g.rows v).length)∧Useless g t n (nx.set v (g.rows v).length) v:=by
     have hu: ∀ w,Useless g t n nx w→Useless g t n (nx.set v (g.rows v).length) w:=by
      rintro w ⟨a,b,c⟩;refine⟨a,b,?_⟩;rw[getD_setN _ _ _ _ (by omega)];split
      ·rename_i ew;subst ew;rfl
      ·exact c
     refine⟨fun u hu2 q hq x hx hax=> ?_,hvt,hv,by rw[getD_setN _ _ _ _ (by omega),Yx rfl]⟩;rw[getD_setN _ _ _ _ (by omega)] at hq;by_cases ev:u=v
     ·subst ev
      by_cases hq2:q<nx.getD u 0
      ·exact hu _ (hd u hu2 q hq2 x hx hax)
      ·exfalso
       have:=hsn x (List.mem_of_getElem? (i:=q - nx.getD u 0) (by rw[drop_head (by omega)];exact hx));rw[this] at hax;cases hax
     ·rw[Yy ev] at hq
      exact hu _ (hd u hu2 q hq x hx hax)
    by_cases hvs:v=s
    ·show Dead g t n (if v=s then _ else _:Option (List α) × List Nat).2
     rw[Yx hvs];exact hd1.1
    ·show Dead g t n (if v=s then _ else _:Option (List α) × List Nat).2
     rw[Yy hvs];cases hw:way.getLast? with
     |none=>exact hd
     |some e=>
      have hlt:=downM_back hg h hw;obtain⟨hb,hne,hto,hDv,hun,hm⟩:=h.back hg hw;refine ih hb (by omega) ?_;have hat:=h.at_ e hm;have hat2:=(List.getElem?_eq_some_iff.1 hat).1;have e1:(nx.set v (g.rows v).length).getD (g.fr e) 0=nx.getD (g.fr e) 0:=by rw[getD_setN _ _ _ _ (by omega),Yy hne]
      have hu: ∀ w,Useless g t n (nx.set v (g.rows v).length) w→Useless g t n ((nx.set v (g.rows v).length).set (g.fr e) ((nx.set v (g.rows v).length).getD (g.fr e) 0+1)) w:=by
       rintro w ⟨a,b,c⟩;refine⟨a,b,?_⟩;rw[getD_setN _ _ _ _ (by rw[List.length_set];omega)];split
       ·rename_i ew;subst ew;omega
       ·exact c
      intro u hu2 q hq x hx hax;rw[getD_setN _ _ _ _ (by rw[List.length_set];omega)] at hq;by_cases ev:u=g.fr e
      ·subst ev
       rw[Yx rfl,e1] at hq;by_cases hq2:q<nx.getD (g.fr e) 0
       ·exact hu _ (hd1.1 _ hu2 q (by rw[e1];exact hq2) x hx hax)
       ·have:q=nx.getD (g.fr e) 0:=by omega
        subst this;rw[hat] at hx;injection hx with hx
        subst hx;rw[hto];exact hu _ hd1.2
      ·rw[Yy ev] at hq
       exact hu _ (hd1.1 u hu2 q hq x hx hax)
theorem dead_way {g:Net_ α} {t n:Nat} {nx:List Nat} (hfr: ∀ u e,e∈g.rows u→g.fr e=u) (hd:Dead g t n nx): ∀ {L:List α} {u:Nat},Leads g.to_ g.rows u L t→(∀ e,e∈L→g.adm (g.fr e) e=true)→ ¬ Useless g t n nx u
 |[],u,h,_,hu=>hu.1 h
 |x::L,u,h,ha,hu=>by
  obtain⟨j,hj⟩:=List.getElem?_of_mem h.1;have hjl:=(List.getElem?_eq_some_iff.1 hj).1;have hx:=ha x List.mem_cons_self;rw[hfr _ _ h.1] at hx;exact dead_way hfr hd h.2 (fun e he=>ha e (List.mem_cons_of_mem _ he)) (hd u hu.2.1 j (by rw[hu.2.2];exact hjl) x hj hx)
end
end H
namespace H
open P Q
def outR (R:Int→Bool):List S74→List Int→Int
 |a::l,x::f=>(if R a.f0 then x else 0) - (if R a.f1 then x else 0)+outR R l f
 |_,_=>0
theorem outR_cons (R:Int→Bool) (a:S74) (l:List S74) (x:Int) (f:List Int):outR R (a::l) (x::f)=(if R a.f0 then x else 0) - (if R a.f1 then x else 0)+outR R l f:=rfl
def capR (R:Int→Bool):List S74→Int
 |[]=>0
 |a::l=>(if R a.f0 && !R a.f1 then a.f2 else 0)+capR R l
theorem capR_cons (R:Int→Bool) (a:S74) (l:List S74):capR R (a::l)=(if R a.f0 && !R a.f1 then a.f2 else 0)+capR R l:=rfl
def sumR (R:Int→Bool) (g:Int→Int):Nat→Int
 |0=>0
 |n+1=>sumR R g n+(if R n then g n else 0)
theorem sumR_add (R:Int→Bool) (g h:Int→Int) (n:Nat):sumR R (fun v=>g v+h v) n=sumR R g n+sumR R h n:=by
 induction n with
 |zero=>rfl
 |succ n ih=>unfold sumR;rw[ih];split<;>omega
theorem sumR_one (R:Int→Bool) (a x:Int) (n:Nat) (h0:0≤a) (h1:a<n):sumR R (fun v=>if a=v then x else 0) n=if R a then x else 0:=by
 have aux: ∀ m:Nat,sumR R (fun v=>if a=v then x else 0) m=if a<m then(if R a then x else 0) else 0:=by
  intro m
  induction m with
  |zero=>rw[Yy (by omega)];rfl
  |succ m ih=>
   unfold sumR;rw[ih];show _+(if R m then(if a=(m:Int) then x else 0) else 0)=_;by_cases e:a=(m:Int)
   ·subst e
    rw[Yy (Int.lt_irrefl _),Yx (show (m:Int)<((m+1:Nat):Int) by omega),Yx rfl];omega
   ·have e2:(if R m then(if a=(m:Int) then x else 0) else 0)=0:=by rw[Yy e];split<;>rfl
    rw[e2];by_cases hm:a<(m:Int)
    ·rw[Yx hm,Yx (show a<((m+1:Nat):Int) by omega)]
     omega
    ·rw[Yy hm,Yy (show ¬ a<((m+1:Nat):Int) by omega)]
     omega
 rw[aux,Yx h1]
theorem sumR_zero (R:Int→Bool) (n:Nat):sumR R (fun _=>0) n=0:=by
 induction n with
 |zero=>rfl
 |succ n ih=>unfold sumR;rw[ih];simp
theorem sumR_neg (R:Int→Bool) (g:Int→Int) (n:Nat):sumR R (fun v=> -g v) n= -sumR R g n:=by
 induction n with
 |zero=>rfl
 |succ n ih=>unfold sumR;rw[ih];split<;>omega
theorem sum_bal (R:Int→Bool) (n:Nat): ∀ (l:List S74) (f:List Int),(∀ a,a∈l→(0≤a.f0∧a.f0<n)∧0≤a.f1∧a.f1<n)→f.length=l.length→sumR R (bal l f) n=outR R l f
 |[],[],_,_=>by
  have e:bal ([]:List S74) []=fun _=>0:=rfl
  rw[e,sumR_zero];rfl
 |[],_::_,_,h=>by simp at h
 |_::_,[],_,h=>by simp at h
 |a::l,x::f,h,hl=>by
  obtain⟨⟨h1,h2⟩,h3,h4⟩:=h a List.mem_cons_self;have e:bal (a::l) (x::f)=fun v=>((if a.f0=v then x else 0)+ -(if a.f1=v then x else 0))+bal l f v:=by
   funext v;rw[bal_cons];omega
  rw[e,sumR_add,sumR_add,sumR_one R _ x n h1 h2,sumR_neg,sumR_one R _ x n h3 h4,sum_bal R n l f (fun b hb=>h b (List.mem_cons_of_mem _ hb)) (by simpa using hl),outR_cons];omega
theorem sumR_ends {R:Int→Bool} {g:Int→Int} {s t:Int} (n:Nat) (hs:R s=true) (ht:R t=false) (h0:0≤s) (h1:s<n) (hg: ∀ v:Int,0≤v→v<n→v≠s→v≠t→g v=0):sumR R g n=g s:=by
 have aux: ∀ m:Nat,m≤n→sumR R g m=if s<m then g s else 0:=by
  intro m
  induction m with
  |zero=>intro _;rw[Yy (by omega)];rfl
  |succ m ih=>
   intro hm;unfold sumR;rw[ih (by omega)];show _+(if R m then g m else 0)=_;by_cases e:s=(m:Int)
   ·subst e
    rw[Yy (Int.lt_irrefl _),Yx hs,Yx (show (m:Int)<((m+1:Nat):Int) by omega)];omega
   ·have e2:(if R m then g m else 0)=0:=by
     by_cases e3:t=(m:Int)
     ·rw[← e3,ht];rfl
     ·rw[hg m (by omega) (by omega) (Ne.symm e) (Ne.symm e3)];split<;>rfl
    rw[e2];by_cases h:s<(m:Int)
    ·rw[Yx h,Yx (show s<((m+1:Nat):Int) by omega)];omega
    ·rw[Yy h,Yy (show ¬ s<((m+1:Nat):Int) by omega)];omega
 rw[aux n (Nat.le_refl _),Yx h1]
theorem outR_le (R:Int→Bool): ∀ (l:List S74) (f:List Int),flowB l f=true→outR R l f≤capR R l
 |[],[],_=>by simp[outR,capR]
 |[],_::_,h=>by simp[flowB] at h
 |_::_,[],h=>by simp[flowB] at h
 |a::l,x::f,h=>by
  unfold flowB at h;split at h
  ·cases h
  ·split at h
   ·cases h
   ·have:=outR_le R l f h
    rw[outR_cons,capR_cons];cases R a.f0<;>cases R a.f1<;>simp<;>omega
def Tightly (R:Int→Bool) (l:List S74) (f:List Int):Prop:= ∀ i:Nat,i<l.length→(R (rd_T74 l i).f0=true→R (rd_T74 l i).f1=false→f.getD i 0=(rd_T74 l i).f2)∧(R (rd_T74 l i).f0=false→R (rd_T74 l i).f1=true→f.getD i 0=0)
theorem outR_eq (R:Int→Bool): ∀ (l:List S74) (f:List Int),f.length=l.length→Tightly R l f→outR R l f=capR R l
 |[],[],_,_=>by simp[outR,capR]
 |[],_::_,h,_=>by simp at h
 |_::_,[],h,_=>by simp at h
 |a::l,x::f,h,ht=>by
  have h0:=ht 0 (by simp);have e:rd_T74 (a::l) ((0:Nat):Int)=a:=rfl;rw[e] at h0;simp only[List.getD_cons_zero] at h0;have ih:=outR_eq R l f (by simpa using h) (fun i hi=>by
   have h1:=ht (i+1) (by simp;omega);have e:rd_T74 (a::l) ((i+1:Nat):Int)=rd_T74 l (i:Int):=by rw[rdArc_nat,rdArc_nat];rfl
   rw[e] at h1
   simpa using h1)
  rw[outR_cons,ih,capR_cons];cases h1:R a.f0<;>cases h2:R a.f1
  ·simp
  ·have:=h0.2 h1 h2;simp[this]
  ·have:=h0.1 h1 h2;simp[this]
  ·simp
structure IsFlow (l:List S74) (F:List Int) (n:Nat) (s t:Int):Prop where
 right:Right l F n
 keeps: ∀ v:Int,0≤v→v<n→v≠s→v≠t→bal l F v=0
theorem ends_arcs {l:List S74} {n:Nat} (h:ends l n): ∀ a,a∈l→(0≤a.f0∧a.f0<n)∧0≤a.f1∧a.f1<n:=by
 intro a ha;obtain⟨i,hi,e⟩:=List.getElem_of_mem ha;have h1:=h i hi;unfold eFrom eTo at h1;rw[rdArc_nat,List.getD_eq_getElem?_getD,List.getElem?_eq_getElem hi] at h1;have e2:(some l[i]).getD z74=a:=e;rw[e2] at h1;exact h1
theorem Right.flowB {l:List S74} {F:List Int} {n:Nat} (h:Right l F n):flowB l F=true:=by
 have hl:=h.len;refine flow_mk hl fun i hi=> ?_
 have:=h.nums i (by omega);rw[rdArc_nat] at this;exact⟨this.2.2.1,this.2.2.2.1⟩
theorem value_le {l:List S74} {F:List Int} {n:Nat} {s t:Int} (h:IsFlow l F n s t) (R:Int→Bool) (hs:R s=true) (ht:R t=false) (h0:0≤s) (h1:s<n):bal l F s≤capR R l:=by
 rw[← sumR_ends n hs ht h0 h1 h.keeps,sum_bal R n l F (ends_arcs h.right.ends) h.right.len];exact outR_le R l F h.right.flowB
theorem value_eq {l:List S74} {F:List Int} {n:Nat} {s t:Int} (h:IsFlow l F n s t) (R:Int→Bool) (hs:R s=true) (ht:R t=false) (h0:0≤s) (h1:s<n)
  (hR: ∀ e:S38,StepOf l e→0<stRoom l F e→R (stFrom l e)=true→R (stTo l e)=true):bal l F s=capR R l:=by
 rw[← sumR_ends n hs ht h0 h1 h.keeps,sum_bal R n l F (ends_arcs h.right.ends) h.right.len];refine outR_eq R l F h.right.len fun i hi=> ?_
 have hn:=h.right.nums i hi;have hf:=hR ⟨i,false⟩ ⟨i,hi,rfl⟩;have hb:=hR ⟨i,true⟩ ⟨i,hi,rfl⟩;unfold stRoom stFrom stTo eFrom eTo at hf hb;simp only[Bool.false_eq_true,if_false,if_true,Int.toNat_natCast] at hf hb;refine⟨fun a b=> ?_,fun a b=> ?_⟩
 ·have: ¬ 0<(rd_T74 l i).f2 - F.getD i 0:=fun g=>by have:=hf g a;rw[b] at this;cases this
  omega
 ·have: ¬ 0<F.getD i 0:=fun g=>by have:=hb g b;rw[a] at this;cases this
  omega
theorem capR_top (R:Int→Bool): ∀ (l:List S74),(∀ a,a∈l→0≤a.f2∧a.f2≤1048576)→0≤capR R l∧capR R l≤1048576 * l.length
 |[],_=>by simp[capR]
 |a::l,h=>by
  have h1:=h a List.mem_cons_self;have h2:=capR_top R l fun b hb=>h b (List.mem_cons_of_mem _ hb)
  rw[List.length_cons,capR_cons];split<;>omega
theorem Right.caps {l:List S74} {F:List Int} {n:Nat} (h:Right l F n): ∀ a,a∈l→0≤a.f2∧a.f2≤1048576:=by
 intro a ha;obtain⟨i,hi,e⟩:=List.getElem_of_mem ha;have h1:=h.nums i hi;rw[rdArc_nat,List.getD_eq_getElem?_getD,List.getElem?_eq_getElem hi] at h1;have e2:(some l[i]).getD z74=a:=e;rw[e2] at h1;omega
end H
namespace H
open P Q
def esP (l:List S74) (F:List Int) (u:Nat):List S38:=(stL l u l.length).filter fun e=>decide (0<stRoom l F e)
def toP (l:List S74) (e:S38):Nat:=(stTo l e).toNat
def frP (l:List S74) (e:S38):Nat:=(stFrom l e).toNat
def bfP (l:List S74) (F:List Int) (n s:Nat):List (Fd S38):=bfsN (toP l) (esP l F) z38 n s
theorem mem_esP {l:List S74} {F:List Int} {u:Nat} {e:S38} :e∈esP l F u↔e∈stL l u l.length∧0<stRoom l F e:=by
 unfold esP;rw[List.mem_filter,decide_eq_true_eq]
theorem frP_of {l:List S74} {u:Nat} {e:S38} (h:e∈stL l u l.length):frP l e=u:=by
 unfold frP;rw[stL_from h,Int.toNat_natCast]
theorem toP_lt {l:List S74} {F:List Int} {n:Nat} (hr:Right l F n) {s:S38} (hs:StepOf l s):toP l s<n:=by
 have:=stTo_in hr hs;unfold toP;omega
theorem esP_to {l:List S74} {F:List Int} {n:Nat} (hr:Right l F n): ∀ (u:Nat) (e:S38),e∈esP l F u→toP l e<n:=fun u e he=>toP_lt hr (stL_of (mem_esP.1 he).1)
theorem esP_fr {l:List S74} {F:List Int} : ∀ (u:Nat) (e:S38),e∈esP l F u→frP l e=u:=fun u e he=>frP_of (mem_esP.1 he).1
theorem esP_of {l:List S74} {F:List Int} {n:Nat} (hr:Right l F n) {e:S38} (hs:StepOf l e) (h:0<stRoom l F e):e∈esP l F (frP l e):=by
 refine mem_esP.2 ⟨?_,h⟩;have hf:=stFrom_in hr hs;rw[mem_stL];unfold frP;rw[Int.toNat_of_nonneg hf.1];obtain⟨i,h1,h2⟩:=hs;refine⟨i,h1,h2,?_⟩;unfold stFrom;rw[h2];cases e.f1
 ·exact .inl ⟨rfl,rfl⟩
 ·exact .inr ⟨rfl,rfl⟩
theorem bfP_upto {l:List S74} {F:List Int} {n s:Nat} (hr:Right l F n) (hs:s<n):Upto (frP l) (toP l) (esP l F) s (bfP l F n s).length (bfP l F n s):=bfsN_upto (esP_to hr) hs
theorem bfP_head {l:List S74} {F:List Int} {n s:Nat} (hr:Right l F n) (hs:s<n): ∃ x,x∈bfP l F n s∧x.v=s∧x.lv=0:=by
 obtain⟨x,r,h1,h2,h3⟩:=(bfP_upto hr hs).fds.head;exact⟨x,by rw[h1];exact List.mem_cons_self,h2,h3⟩
def netG (l:List S74) (F D:List Int):Net_ S38:=⟨fun v=>stL l v l.length,toP l,frP l,fun v=>D.getD v 0,fun e=>decide (0<stRoom l F e)⟩
theorem netG_fine {l:List S74} {F F0:List Int} {n s:Nat} (hr:Right l F0 n) (hs:s<n):(netG l F (dOf n (bfP l F0 n s))).Fine s n:=by
 have hu:=bfP_upto hr hs;refine⟨fun u e he=>frP_of he,fun u e he=>toP_lt hr (stL_of he),hs,?_,fun v hv=> ?_⟩
 ·obtain⟨x,h1,h2,h3⟩:=bfP_head hr hs
  show (dOf n _).getD s 0=0;have h4:=dOf_mem hu.fds.nodup h1 0 (by rw[h2];exact hs);rw[h2,h3] at h4;exact h4
 ·show (dOf n _).getD v 0<n
  rw[dOf_get _ _ hv];cases hf:fnd (bfP l F0 n s) v with
  |none=>simp only;omega
  |some x=>
   have h1:=lv_lt hu.fds (fnd_some hf).1;have h2:=fds_len hu.fds (esP_to hr) hs;simp only;omega
def phaseF (l:List S74) (D:List Int) (s t:Nat):Nat→List Int→List Nat→List Int
 |0,F,_=>F
 |k+1,F,nx=>match downG (netG l F D) s t 2000000 s [] nx with
  |(none,_)=>F
  |(some L,nx')=>phaseF l D s t k (pushW F (leastR l F L) L) nx'
def refillF (l:List S74) (n s t:Nat):Nat→List Int→List Int
 |0,F=>F
 |k+1,F=>if (dOf n (bfP l F n s)).getD t 0<0 then F else refillF l n s t k (phaseF l (dOf n (bfP l F n s)) s t 300000000 F (List.replicate n 0))
def fillF (l:List S74) (n s t:Nat):List Int:=refillF l n s t 300000000 (List.replicate l.length 0)
theorem remG_le (g:Net_ S38) (nx:List Nat) (h: ∀ v,(g.rows v).length≤400) (n:Nat):remG g nx n≤400 * n:=by
 induction n with
 |zero=>exact Nat.le_refl _
 |succ n ih=>unfold remG;have:=h n;omega
theorem downM_lt {l:List S74} {F D:List Int} {n v:Nat} (h:l.length≤200) (hn:n≤50) (nx:List Nat):downM (netG l F D) n v nx<2000000:=by
 have h1:=remG_le (netG l F D) nx (fun v=>by have:=stL_len l v l.length;show (stL l v l.length).length≤400;omega) n;have h2:remG (netG l F D) nx n * (n+1)≤20000 * 51:=Nat.mul_le_mul (by omega) (by omega);unfold downM;omega
theorem leads_trail {l:List S74} {F:List Int} {n:Nat} (hr:Right l F n) {rows:Nat→List S38} (hrows: ∀ u e,e∈rows u→e∈stL l u l.length): ∀ {L:List S38} {s t:Nat},Leads (toP l) rows s L t→Trail l s L t
 |[],s,t,h=>by cases h;rfl
 |x::L,s,t,h=>by
  have hx:=hrows _ _ h.1;refine⟨stL_of hx,stL_from hx,?_⟩;have h1:=stTo_in hr (stL_of hx);have h2:=leads_trail hr hrows h.2;unfold toP at h2;rw[Int.toNat_of_nonneg h1.1] at h2;exact h2
structure NxOk (l:List S74) (n:Nat) (nx:List Nat):Prop where
 len:nx.length=n
 le: ∀ u,u<n→nx.getD u 0≤(stL l u l.length).length
theorem nx_zero (l:List S74) (n:Nat):NxOk l n (List.replicate n 0):=
 ⟨by simp,fun u hu=>by rw[List.getD_eq_getElem?_getD,List.getElem?_replicate,Yx hu];exact Nat.zero_le _⟩
theorem dinv_start {l:List S74} {F D:List Int} {n s:Nat} {nx:List Nat} (hs:s<n) (h:NxOk l n nx):DInv (netG l F D) s n s [] nx:=
 ⟨hs,h.len,h.le,rfl,fun e he=>(by cases he),fun e he=>(by cases he)⟩
theorem push_found {l:List S74} {F F0:List Int} {n s t:Nat} (hf:IsFlow l F n s t) (hr0:Right l F0 n) (hs:s<n) (hst:s≠t) {L:List S38}
  (hL:Leads (toP l) (fun v=>stL l v l.length) s L t) (ha: ∀ e,e∈L→(netG l F (dOf n (bfP l F0 n s))).adm (frP l e) e=true):
  IsFlow l (pushW F (leastR l F L) L) n s t∧1≤leastR l F L∧L≠[]∧bal l (pushW F (leastR l F L) L) s=bal l F s+leastR l F L∧L.Pairwise (fun a b=>a.f0≠b.f0)∧(∀ s,s∈L→StepOf l s)∧leastR l F L≤1048576:=by
 have hne:L≠[]:=by rintro rfl;exact hst hL
 have htr:=leads_trail hf.right (rows:=fun v=>stL l v l.length) (fun _ _ h=>h) hL;have hroom: ∀ e,e∈L→0<stRoom l F e:=fun e he=>Yu (adm_lv (ha e he)).2
 obtain⟨m,hm,hle⟩:=leastR_in (l:=l) (F:=F) hne;have h1:1≤leastR l F L:=by rw[hle];exact hroom m hm
 have hap:=(rises_apart (l:=l) (fun v=>(dOf n (bfP l F0 n s)).getD v.toNat 0) htr (fun e he=>(adm_lv (ha e he)).1)).1;have hr:=Right.pushW (k:=leastR l F L) (by omega) L hf.right (fun e he=>⟨htr.of e he,leastR_le he⟩) hap;have hb:=fun v=>bal_pushW (leastR l F L) v hf.right.len htr
 have hmx:=(stRoom_in hf.right (htr.of m hm)).2;refine⟨⟨hr,fun v h0 h1 h2 h3=> ?_⟩,h1,hne,?_,hap,htr.of,by omega⟩
 ·rw[hb,Yy h2,Yy h3,hf.keeps v h0 h1 h2 h3];rfl
 ·rw[hb,Yx rfl,Yy (by omega)];omega
theorem flow_top {l:List S74} {F:List Int} {n s t:Nat} (hf:IsFlow l F n s t) (hs:s<n) (hst:s≠t):bal l F s≤209715200:=by
 have h1:=value_le hf (fun v=>decide (v=(s:Int))) (by simp) (by simp;omega) (by omega) (by omega);have h2:=capR_top (fun v=>decide (v=(s:Int))) l hf.right.caps;have h3:=hf.right.arcs;have h4:1048576 * (l.length:Int)≤1048576 * 200:=by omega
 omega
structure PhaseOk (l:List S74) (F0:List Int) (n s t:Nat) (F:List Int):Prop where
 flow:IsFlow l F n s t
 more:bal l F0 s≤bal l F s
theorem phase_step {l:List S74} {F D:List Int} {s t k:Nat} {nx nx':List Nat} {L:List S38} (h:downG (netG l F D) s t 2000000 s [] nx=(some L,nx')):phaseF l D s t (k+1) F nx=phaseF l D s t k (pushW F (leastR l F L) L) nx':=by
 show (match downG (netG l F D) s t 2000000 s [] nx with|(none,_)=>F|(some L,nx')=>phaseF l D s t k (pushW F (leastR l F L) L) nx')=_;rw[h]
theorem phase_end {l:List S74} {F D:List Int} {s t k:Nat} {nx nx':List Nat} (h:downG (netG l F D) s t 2000000 s [] nx=(none,nx')):phaseF l D s t (k+1) F nx=F:=by
 show (match downG (netG l F D) s t 2000000 s [] nx with|(none,_)=>F|(some L,nx')=>phaseF l D s t k (pushW F (leastR l F L) L) nx')=_;rw[h]
theorem phase_flow {l:List S74} {F0:List Int} {n s t:Nat} (hr0:Right l F0 n) (hs:s<n) (hst:s≠t) (k:Nat): ∀ {F:List Int} {nx:List Nat},IsFlow l F n s t→NxOk l n nx→PhaseOk l F n s t (phaseF l (dOf n (bfP l F0 n s)) s t k F nx):=by
 induction k with
 |zero=>intro F nx hf _;exact⟨hf,Int.le_refl _⟩
 |succ k ih=>
  intro F nx hf hnx;have hfd:=downG_found (t:=t) (netG_fine (F:=F) hr0 hs) 2000000 (dinv_start (F:=F) (D:=dOf n (bfP l F0 n s)) hs hnx) (downM_lt hf.right.arcs hf.right.fifty nx);cases hd:downG (netG l F (dOf n (bfP l F0 n s))) s t 2000000 s [] nx with
  |mk r nx'=>
   rw[hd] at hfd;cases r with
   |none=>rw[phase_end hd];exact⟨hf,Int.le_refl _⟩
   |some L=>
    rw[phase_step hd];obtain⟨h1,h2⟩:=hfd.way L rfl;obtain⟨p1,p2,p3,p4,_⟩:=push_found hf hr0 hs hst h1 h2;obtain⟨q1,q2⟩:=ih (nx:=nx') p1 ⟨hfd.len,hfd.le⟩;exact⟨q1,by omega⟩
theorem phase_first {l:List S74} {F:List Int} {n s t:Nat} (hr:Right l F n) (hs:s<n) (ht:t<n) (hst:s≠t) (hd:0≤(dOf n (bfP l F n s)).getD t 0): ∃ L nx',downG (netG l F (dOf n (bfP l F n s))) s t 2000000 s [] (List.replicate n 0)=(some L,nx'):=by
 have hu:=bfP_upto hr hs;have hfine:=netG_fine (F:=F) hr hs;have hi:=dinv_start (F:=F) (D:=dOf n (bfP l F n s)) hs (nx_zero l n);have hfd:=downG_found (t:=t) hfine 2000000 hi (downM_lt hr.arcs hr.fifty _);have hdd:=downG_dead (t:=t) hfine 2000000 hi (downM_lt hr.arcs hr.fifty _) (fun u hu j hj=>by
  rw[List.getD_eq_getElem?_getD,List.getElem?_replicate,Yx hu] at hj;exact absurd hj (Nat.not_lt_zero _))
 cases he:downG (netG l F (dOf n (bfP l F n s))) s t 2000000 s [] (List.replicate n 0) with
 |mk r nx'=>
  cases r with
  |some L=>exact⟨L,nx',rfl⟩
  |none=>
   exfalso;rw[he] at hfd hdd;have hmem:t∈nodes (bfP l F n s):=Classical.byContradiction fun h=>by have:=(dOf_neg (bfP l F n s) 0 ht).2 h;omega
   obtain⟨x,hx,hxv⟩:=List.mem_map.1 hmem;have hle:=Nat.le_of_lt (lv_lt hu.fds hx);obtain⟨_,hle2⟩:=backL_spec hu.fds esP_fr (bfP l F n s).length hx hle;have hlv:=backL_lv hu.fds esP_fr (bfP l F n s).length hx;rw[hxv] at hle2 hlv;have hmono: ∀ {L:List S38} {a b:Nat},Leads (toP l) (esP l F) a L b→Leads (toP l) (fun v=>stL l v l.length) a L b:=by
    intro L
    induction L with
    |nil=>intro a b h;exact h
    |cons y L ih=>intro a b h;exact⟨(mem_esP.1 h.1).1,ih h.2⟩
   refine dead_way (g:=netG l F (dOf n (bfP l F n s))) hfine.hfr hdd (hmono hle2) (fun e hein=> ?_) ⟨hst,hs,hfd.none_ rfl⟩;obtain⟨y,z,hy,hz,h1,h2,h3,h4⟩:=hlv e (List.mem_reverse.1 hein);have hln:=fds_lt hu.fds (esP_to hr) hs;have g1:(dOf n (bfP l F n s)).getD (toP l e) 0=y.lv:=by rw[← h1];exact dOf_mem hu.fds.nodup hy 0 (hln _ (List.mem_map_of_mem hy))
   have g2:(dOf n (bfP l F n s)).getD (frP l e) 0=z.lv:=by rw[← h2];exact dOf_mem hu.fds.nodup hz 0 (hln _ (List.mem_map_of_mem hz))
   show (decide ((dOf n (bfP l F n s)).getD (toP l e) 0=(dOf n (bfP l F n s)).getD (frP l e) 0+1) && decide (0<stRoom l F e))=true;rw[g1,g2,Bool.and_eq_true,decide_eq_true_eq,decide_eq_true_eq];exact⟨by omega,(mem_esP.1 h4).2⟩
theorem phase_grows {l:List S74} {F:List Int} {n s t:Nat} (hf:IsFlow l F n s t) (hs:s<n) (ht:t<n) (hst:s≠t) (hd:0≤(dOf n (bfP l F n s)).getD t 0) (k:Nat):
  IsFlow l (phaseF l (dOf n (bfP l F n s)) s t (k+1) F (List.replicate n 0)) n s t∧bal l F s+1≤bal l (phaseF l (dOf n (bfP l F n s)) s t (k+1) F (List.replicate n 0)) s:=by
 obtain⟨L,nx',he⟩:=phase_first hf.right hs ht hst hd;have hfd:=downG_found (t:=t) (netG_fine (F:=F) hf.right hs) 2000000 (dinv_start (F:=F) (D:=dOf n (bfP l F n s)) hs (nx_zero l n)) (downM_lt hf.right.arcs hf.right.fifty _);rw[he] at hfd;rw[phase_step he];obtain⟨h1,h2⟩:=hfd.way L rfl;obtain⟨p1,p2,p3,p4,_⟩:=push_found hf hf.right hs hst h1 h2;obtain⟨q1,q2⟩:=phase_flow hf.right hs hst k (nx:=nx') p1 ⟨hfd.len,hfd.le⟩;exact⟨q1,by omega⟩
structure MaxF (l:List S74) (F:List Int) (n s t:Nat):Prop where
 flow:IsFlow l F n s t
 cut:t ∉ nodes (bfP l F n s)
theorem refill_max {l:List S74} {n s t:Nat} (hs:s<n) (ht:t<n) (hst:s≠t) (k:Nat): ∀ {F:List Int},IsFlow l F n s t→209715200 - bal l F s<k→MaxF l (refillF l n s t k F) n s t:=by
 induction k with
 |zero=>intro F hf hk;have:=flow_top hf hs hst;omega
 |succ k ih=>
  intro F hf hk;unfold refillF;by_cases h:(dOf n (bfP l F n s)).getD t 0<0
  ·rw[Yx h]
   exact⟨hf,(dOf_neg _ _ ht).1 h⟩
  ·rw[Yy h]
   obtain⟨h1,h2⟩:=phase_grows hf hs ht hst (by omega) 299999999;rw[show 299999999+1=300000000 from rfl] at h1 h2;exact ih h1 (by omega)
theorem zeros_flow {l:List S74} {n s t:Nat} (h0:0<n) (h50:n≤50) (hl:l.length≤200) (he:ends l n) (hn: ∀ i:Nat,i<l.length→0≤(rd_T74 l i).f3∧(rd_T74 l i).f3≤1048576∧0≤(rd_T74 l i).f2∧(rd_T74 l i).f2≤1048576):
  IsFlow l (List.replicate l.length 0) n s t∧bal l (List.replicate l.length 0) s=0:=by
 have hz: ∀ (l:List S74) (v:Int),bal l (List.replicate l.length 0) v=0:=by
  intro l v
  induction l with
  |nil=>rfl
  |cons a l ih=>rw[List.length_cons,List.replicate_succ,bal_cons,ih];split<;>split<;>rfl
 refine⟨⟨⟨h0,h50,hl,by simp,he,fun i hi=> ?_⟩,fun v _ _ _ _=>hz l v⟩,hz l _⟩;have:=hn i hi;have e:(List.replicate l.length (0:Int)).getD i 0=0:=by rw[List.getD_eq_getElem?_getD,List.getElem?_replicate,Yx hi];rfl
 rw[e];omega
def sideP (l:List S74) (F:List Int) (n s:Nat) (v:Int):Bool:=decide (0≤v∧v.toNat∈nodes (bfP l F n s))
theorem side_closed {l:List S74} {F:List Int} {n s:Nat} (hr:Right l F n) (hs:s<n): ∀ e:S38,StepOf l e→0<stRoom l F e→sideP l F n s (stFrom l e)=true→sideP l F n s (stTo l e)=true:=by
 intro e he hroom h;unfold sideP at h ⊢;rw[decide_eq_true_eq] at h ⊢;obtain⟨x,hx,hxv⟩:=List.mem_map.1 h.2;have h1:=esP_of hr he hroom;have h2:frP l e=x.v:=hxv.symm;rw[h2] at h1;obtain⟨y,hy,h3,_⟩:=bfsN_closed (z:=z38) (esP_to hr) hs hx h1;have h4:=stTo_in hr he;exact⟨h4.1,List.mem_map.2 ⟨y,hy,h3⟩⟩
theorem max_value {l:List S74} {F:List Int} {n s t:Nat} (h:MaxF l F n s t) (hs:s<n) (hst:s≠t):bal l F s=capR (sideP l F n s) l∧sideP l F n s s=true∧sideP l F n s t=false:=by
 have h1:sideP l F n s s=true:=by
  obtain⟨x,hx,hxv,_⟩:=bfP_head h.flow.right hs;unfold sideP;rw[decide_eq_true_eq];exact⟨by omega,by rw[Int.toNat_natCast];exact List.mem_map.2 ⟨x,hx,hxv⟩⟩
 have h2:sideP l F n s t=false:=by
  unfold sideP;rw[decide_eq_false_iff_not,Int.toNat_natCast];exact fun g=>h.cut g.2
 exact⟨value_eq h.flow _ h1 h2 (by omega) (by omega) (side_closed h.flow.right hs),h1,h2⟩
theorem max_top {l:List S74} {F G:List Int} {n s t:Nat} (h:MaxF l F n s t) (hs:s<n) (hst:s≠t) (hg:IsFlow l G n s t):bal l G s≤bal l F s:=by
 obtain⟨h1,h2,h3⟩:=max_value h hs hst;rw[h1];exact value_le hg _ h2 h3 (by omega) (by omega)
end H
namespace H
open P Q
structure Seen (l:List S74) (F:List Int) (n s:Nat) (t:Int) (st:List (Fd S38)):Prop where
 pre: ∃ r,bfP l F n s=st ++ r
 fds:Fds (frP l) (toP l) (esP l F) s st
 hit:st=bfP l F n s∨ ∃ tn:Nat,t=tn∧tn∈nodes st
structure Lp (l:List S74) (F:List Int) (n s:Nat) (t:Int) (st:List (Fd S38)) (i:Nat):Prop where
 upto:Upto (frP l) (toP l) (esP l F) s i st
 rest:bfs (toP l) (esP l F) (n - i) i st=bfP l F n s
 ile:i≤st.length
 nott: ∀ tn:Nat,t=tn→tn ∉ nodes st
structure Li (l:List S74) (F:List Int) (n s:Nat) (t:Int) (x:Fd S38) (X stj:List (Fd S38)) (i j:Nat):Prop where
 fds:Fds (frP l) (toP l) (esP l F) s stj
 mst: ∀ y,y∈stj→y.lv≤x.lv+1
 at_:stj[i]? =some x
 tail:(((stL l x.v l.length).drop j).filter fun e=>decide (0<stRoom l F e)).foldl (vis (toP l) x.lv) stj=X
 nott: ∀ tn:Nat,t=tn→tn ∉ nodes stj
section
variable {l:List S74} {F:List Int} {n s:Nat} {t:Int}
theorem lp_start (hs:s<n) (ht:t≠s):Lp l F n s t [⟨s,z38,0⟩] 0:=
 ⟨upto_start _ _ _ _ _,rfl,Nat.zero_le _,fun tn e hm=>by simp[nodes] at hm;omega⟩
theorem Lp.seen {st:List (Fd S38)} {i:Nat} (h:Lp l F n s t st i) (hi:i=st.length):Seen l F n s t st:=by
 have e:st=bfP l F n s:=by
  rw[← h.rest];cases n - i with
  |zero=>rfl
  |succ k=>unfold bfs;rw[List.getElem?_eq_none (by omega)]
 exact⟨⟨[],by rw[List.append_nil, ← e]⟩,h.upto.fds, .inl e⟩
theorem Lp.len (hr:Right l F n) (hs:s<n) {st:List (Fd S38)} {i:Nat} (h:Lp l F n s t st i):st.length≤n:=fds_len h.upto.fds (esP_to hr) hs
theorem Lp.inner {st:List (Fd S38)} {i:Nat} (h:Lp l F n s t st i) {x:Fd S38} (hx:st[i]? =some x):Li l F n s t x (proc (toP l) (esP l F) st x) st i 0:=
 ⟨h.upto.fds,h.upto.most x hx,hx,by rw[List.drop_zero];rfl,h.nott⟩
theorem Li.next (hr:Right l F n) (hs:s<n) {st:List (Fd S38)} {i:Nat} (h:Lp l F n s t st i) {x:Fd S38} (hx:st[i]? =some x) {stj:List (Fd S38)} (hj:Li l F n s t x (proc (toP l) (esP l F) st x) stj i (stL l x.v l.length).length):Lp l F n s t stj (i+1):=by
 have e:stj=proc (toP l) (esP l F) st x:=by
  have:=hj.tail;rw[List.drop_of_length_le (Nat.le_refl _)] at this;exact this
 have hil:=(List.getElem?_eq_some_iff.1 hx).1;have hl:=h.len hr hs;refine⟨by rw[e];exact h.upto.next hx,?_,?_,hj.nott⟩
 ·have hrest:=h.rest
  rw[show n - i=(n - (i+1))+1 by omega] at hrest;rw[e, ← hrest];rw[bfs,hx]
 ·have:=(List.getElem?_eq_some_iff.1 hj.at_).1
  omega
theorem row_drop {x:Fd S38} {j:Nat} {e:S38} (he:(stL l x.v l.length)[j]? =some e):(stL l x.v l.length).drop j=e::(stL l x.v l.length).drop (j+1):=by
 obtain⟨hlt,h⟩:=List.getElem?_eq_some_iff.1 he;rw[List.drop_eq_getElem_cons hlt,h]
theorem Li.skip {x:Fd S38} {X stj:List (Fd S38)} {i j:Nat} (h:Li l F n s t x X stj i j) {e:S38} (he:(stL l x.v l.length)[j]? =some e) (h0: ¬ 0<stRoom l F e∨toP l e∈nodes stj):Li l F n s t x X stj i (j+1):=by
 refine⟨h.fds,h.mst,h.at_,?_,h.nott⟩;have ht:=h.tail;rw[row_drop he,List.filter_cons] at ht;by_cases hr:0<stRoom l F e
 ·rw[Yx (by simpa using hr),List.foldl_cons] at ht
  have hv:vis (toP l) x.lv stj e=stj:=by unfold vis;rw[Yx (h0.resolve_left (fun h=>h hr))]
  rw[hv] at ht;exact ht
 ·rw[Yy (by simpa using hr)] at ht
  exact ht
theorem Li.add {x:Fd S38} {X stj:List (Fd S38)} {i j:Nat} (h:Li l F n s t x X stj i j) {e:S38} (he:(stL l x.v l.length)[j]? =some e) (hr:0<stRoom l F e) (hn:toP l e ∉ nodes stj):
  Fds (frP l) (toP l) (esP l F) s (stj ++ [⟨toP l e,e,x.lv+1⟩])∧(∀ y,y∈stj ++ [⟨toP l e,e,x.lv+1⟩]→y.lv≤x.lv+1)∧(((stL l x.v l.length).drop (j+1)).filter fun e=>decide (0<stRoom l F e)).foldl (vis (toP l) x.lv) (stj ++ [⟨toP l e,e,x.lv+1⟩])=X∧(stj ++ [⟨toP l e,e,x.lv+1⟩])[i]? =some x:=by
 have hv:vis (toP l) x.lv stj e=stj ++ [⟨toP l e,e,x.lv+1⟩]:=by unfold vis;rw[Yy hn]
 obtain⟨h1,h2⟩:=h.fds.vis h.at_ h.mst (mem_esP.2 ⟨List.mem_of_getElem? he,hr⟩);rw[hv] at h1 h2;have ht:=h.tail;rw[row_drop he,List.filter_cons,Yx (by simpa using hr),List.foldl_cons,hv] at ht;exact⟨h1,h2,ht,by rw[List.getElem?_append_left (List.getElem?_eq_some_iff.1 h.at_).1];exact h.at_⟩
theorem Li.put {x:Fd S38} {X stj:List (Fd S38)} {i j:Nat} (h:Li l F n s t x X stj i j) {e:S38} (he:(stL l x.v l.length)[j]? =some e) (hr:0<stRoom l F e) (hn:toP l e ∉ nodes stj) (ht:t≠toP l e):Li l F n s t x X (stj ++ [⟨toP l e,e,x.lv+1⟩]) i (j+1):=by
 obtain⟨h1,h2,h3,h4⟩:=h.add he hr hn;refine⟨h1,h2,h4,h3,fun tn etn hm=> ?_⟩;rw[nodes_app] at hm;rcases List.mem_append.1 hm with hm|hm
 ·exact h.nott tn etn hm
 ·simp[nodes] at hm
  exact ht (by rw[etn,hm])
theorem Li.found {st:List (Fd S38)} {i:Nat} (hp:Lp l F n s t st i) {x:Fd S38} (hx:st[i]? =some x) (hi:i<n) {stj:List (Fd S38)} {j:Nat} (h:Li l F n s t x (proc (toP l) (esP l F) st x) stj i j) {e:S38} (he:(stL l x.v l.length)[j]? =some e) (hr:0<stRoom l F e) (hn:toP l e ∉ nodes stj) (ht:t=toP l e):
  Seen l F n s t (stj ++ [⟨toP l e,e,x.lv+1⟩]):=by
 obtain⟨h1,h2,h3,h4⟩:=h.add he hr hn;refine⟨?_,h1, .inr ⟨toP l e,ht,by rw[nodes_app];exact List.mem_append_right _ (by simp[nodes])⟩⟩;obtain⟨r,hr1⟩:=fold_pre (toP l) x.lv (((stL l x.v l.length).drop (j+1)).filter fun e=>decide (0<stRoom l F e)) (stj ++ [⟨toP l e,e,x.lv+1⟩]);obtain⟨q,hq⟩:=bfs_pre (toP l) (esP l F) (n - (i+1)) (i+1) (proc (toP l) (esP l F) st x);have hrest:=hp.rest;rw[show n - i=(n - (i+1))+1 by omega,bfs,hx] at hrest;refine⟨r ++ q,?_⟩;rw[← hrest];show bfs (toP l) (esP l F) (n - (i+1)) (i+1) (proc (toP l) (esP l F) st x)=_;rw[hq, ← h3,hr1,List.append_assoc]
def qOf (st:List (Fd S38)) (i:Nat):List Int:=((nodes st).drop i).map fun v:Nat=>(v:Int)
theorem qOf_cons {st:List (Fd S38)} {i:Nat} {x:Fd S38} (hx:st[i]? =some x):qOf st i=(x.v:Int)::qOf st (i+1):=by
 obtain⟨hlt,h⟩:=List.getElem?_eq_some_iff.1 hx;unfold qOf nodes;rw[List.drop_eq_getElem_cons (by simpa using hlt),List.map_cons,List.getElem_map,h]
theorem qOf_snoc {st:List (Fd S38)} {i:Nat} (hi:i≤st.length) (y:Fd S38):qOf (st ++ [y]) i=qOf st i ++ [(y.v:Int)]:=by
 unfold qOf;rw[nodes_app,List.drop_append_of_le_length (by unfold nodes;simpa using hi),List.map_append];rfl
end
end H
namespace P
attribute [local go_sem] max2_int min2_int max_two min_two max_three min_three max_four min_four
def pile_room.f (a0:Int):Option (Bool):=if a0≥0 then(some (decide (a0≤65536))) else(some false)
set_option maxHeartbeats 8000000 in
set_option maxRecDepth 100000 in
theorem pile_room.calls (a0:Int) (r:Bool) (w:World) (h:pile_room.f a0=some r):
  Calls Try.prog 172 #[.int .i64 a0] w fun e w'=>e= .returned (.bool r)∧Drawn0 w w':=by
 have H:(if a0≥0 then(some (decide (a0≤65536))) else(some false))=some r:=h;clear h;by_cases c2:a0≥0
 rotate_left
 ·rw[Yy c2] at H
  have c2b0:decide (0≤a0)=false:=Yw c2;clear c2;obtain rfl:=Option.some.inj H;go_enter Try.func172,Try.ntmps172;go_wp2;go_ret;exact⟨by first|rfl|(simp;done)|(simp[*];done),by repeat(first|exact Drawn0.refl _|apply Drawn0.step)⟩
 rw[Yx c2] at H;have c2b0:decide (0≤a0)=true:=Yv c2;clear c2;obtain rfl:=Option.some.inj H;go_enter Try.func172,Try.ntmps172;go_wp2;go_ret;exact⟨by first|rfl|(simp;done)|(simp[*];done),by repeat(first|exact Drawn0.refl _|apply Drawn0.step)⟩
end P
namespace H
open P
attribute [local irreducible] wpQuiet
theorem info3:(Try.prog.info? 3).map (fun i=>(i.zero,i.size,i.bytes))=some (some (.int .i64 0),1,8):=by kernel_rfl
def ringAt (X:Nat→Int) (m i:Nat):List Int:=(List.range i).map X ++ List.replicate (2 * m+4 - i) 0
theorem made_ring (X:Nat→Int) (m:Nat) (hm:m≤200): ∀ W:World,(Instr.makeSlice 25 (.int .i64 0) (.int .i64 (2 * (m:Int)+4))).run Try.prog W= .ok (.slice (some ⟨W.heap.size,0,none⟩) 0 (2 * m+4)) (W.alloc (.cells (nums .i64 (ringAt X m 0)).toArray 3)):=by
 intro W;have er:ringAt X m 0=List.replicate (2 * m+4) 0:=by simp[ringAt]
 rw[er];obtain⟨i0,hi,hzz⟩:=Option.map_eq_some_iff.1 info3;simp only[Prod.mk.injEq] at hzz;obtain⟨hz0,hz1,hz2⟩:=hzz;have hr:=run_make (P:=Try.prog) W 25 3 i0 (.int .i64 0) Try.underlying25 hi hz0 .i64 .i64 (0:Int) (2 * (m:Int)+4) (by omega) (by omega) (by rw[hz2];omega) (by omega);rw[hz1] at hr;have e1:(2 * (m:Int)+4).toNat=2 * m+4:=by omega
 rw[e1] at hr;have hl:(madeCells #[Value.int .i64 0] ((2 * m+4) * 1))=(nums .i64 (List.replicate (2 * m+4) 0)).toArray:=by
  apply Array.ext';apply List.ext_getElem
  ·simp[nums,madeCells]
  ·intro i h1 h2
   simp[nums,madeCells,Nat.mod_one]
 exact hr.trans (by rw[← hl];rfl)
theorem ringAt_len (X:Nat→Int) (m i:Nat) (h:i≤m):(ringAt X m i).length=2 * m+4:=by simp[ringAt];omega
theorem ringAt_set (X:Nat→Int) (m i:Nat) (h:i<m):(ringAt X m i).set i (X i)=ringAt X m (i+1):=by
 unfold ringAt;rw[List.set_append_right _ _ (by simp),List.range_succ,List.map_append,List.append_assoc];congr 1;simp only[List.length_map,List.length_range,Nat.sub_self,List.map_cons,List.map_nil,List.cons_append,List.nil_append];rw[show 2 * m+4 - i=(2 * m+4 - (i+1))+1 by omega,List.replicate_succ];rfl
set_option maxHeartbeats 1000000 in
set_option maxRecDepth 100000 in
theorem grow_nil (g:Nat) (w:World) (c0:w.cell? ⟨g,0,none⟩=some (.slice none 0 0)) (c2:w.cell? ⟨g,2,none⟩=some (.int .i64 0)) (f0:w.frozen? ⟨g,0,none⟩=false) (f1:w.frozen? ⟨g,1,none⟩=false) (c1:w.cell? ⟨g,1,none⟩=some (.int .i64 0)):
  Calls Try.prog 173 #[.pointer (some ⟨g,0,none⟩)] w fun e w'=>e= .returned (.tuple #[])∧w'=((w.alloc (.cells (nums .i64 (ringAt (fun _=>0) 0 0)).toArray 3)).setCell ⟨g,0,none⟩ (.slice (some ⟨w.heap.size,0,none⟩) 4 4)).setCell ⟨g,1,none⟩ (.int .i64 0):=by
 have hu:=Try.underlying193;have hg:=Yb w _ c0;have hmk:=made_ring (fun _=>0) 0 (by omega);simp only[Int.ofNat_zero,Int.mul_zero,Int.zero_add,Nat.mul_zero,Nat.zero_add,Int.natCast_zero] at hmk;go_enter Try.func173,Try.ntmps173;go_wp2_with fail;go_loopw [2,16] (fun v2 v16 w'=>v2= .slice (some ⟨w.heap.size,0,none⟩) 0 4∧v16= .int .i64 0∧Aside0 (w'=w.alloc (.cells (nums .i64 (ringAt (fun _=>0) 0 0)).toArray 3))) (fun _ _ _=>0)
 case atStart=>exact⟨rfl,rfl,⟨rfl⟩⟩
 case round=>
  obtain⟨rfl,rfl,HW⟩:=hrel;have hw:=HW.out;subst hw;go_wp2_with fail;exact bodyPost_end (results_none rfl _ _ _) rfl ⟨rfl,rfl⟩
theorem ring_put {W:World} {H:Nat} {X:Nat→Int} {m i:Nat} (h:W.heap[H]? =some (.cells (nums .i64 (ringAt X m i)).toArray 3 (0,0))) (hi:i<m):(W.setCells H (0+i * 1) [.int .i64 (X i)]).heap[H]? =some (.cells (nums .i64 (ringAt X m (i+1))).toArray 3 (0,0)):=by
 rw[show 0+i * 1=i by omega, ← ringAt_set X m i hi];refine(blk_set h i (.int .i64 (X i))).trans ?_;simp[nums,List.map_set]
theorem below_cells {w W:World} {H o:Nat} {v:Value} (h:Below w.heap.size w W) (hH:w.heap.size≤H):Below w.heap.size w (W.setCells H o [v]):=Yh h hH
theorem far_keep {wr W:World} {H o:Nat} {vs:List Value} {a:Addr} {v:Value} (hc:wr.cell? a=some v) (hB:Below wr.heap.size wr W) (hne:a.block≠H):(W.setCells H o vs).cell? a=some v:=
 (World.cell?_of_block (setCells_far vs o a.block hne)).trans (pw_cell_below hB hc)
theorem spare_ok {W wr:World} {H i:Nat} {cs:Array Value} {x:Value} (hb:wr.heap[H]? =some (.cells cs 3 (0,0))) (hW:W.heap[H]? =wr.heap[H]?) (hi:i<cs.size): ∀ j,j<[x].length→(W.cell? ⟨H,0+i * 1+j,none⟩).isSome=true∧W.frozen? ⟨H,0+i * 1+j,none⟩=false:=by
 intro j hj;have hj0:j=0:=by simpa using hj
 subst hj0;have h:=hW.trans hb;refine⟨?_,Yf h _⟩;rw[Yc h,show 0+i * 1+0=i by omega,Array.getElem?_eq_getElem hi];rfl
set_option maxHeartbeats 2000000 in
set_option maxRecDepth 100000 in
theorem grow_core (g b m fr:Nat) (X:Nat→Int) (w:World) (c0:w.cell? ⟨g,0,none⟩=some (.slice (some ⟨b,0,none⟩) m m)) (c1:w.cell? ⟨g,1,none⟩=some (.int .i64 fr)) (c2:w.cell? ⟨g,2,none⟩=some (.int .i64 m)) (hX: ∀ i,i<m→w.cell? ⟨b,(fr+i) % m,none⟩=some (.int .i64 (X i)))
  (f0:w.frozen? ⟨g,0,none⟩=false) (f1:w.frozen? ⟨g,1,none⟩=false) (hm0:0<m) (hm:m≤96) (hfr:fr<m):
  Calls Try.prog 173 #[.pointer (some ⟨g,0,none⟩)] w fun e w'=>e= .returned (.tuple #[])∧ ∃ w1,Below w.heap.size w w1∧w1.heap[w.heap.size]? =some (.cells (nums .i64 (ringAt X m m)).toArray 3 (0,0))∧w'=(w1.setCell ⟨g,0,none⟩ (.slice (some ⟨w.heap.size,0,none⟩) (2 * m+4) (2 * m+4))).setCell ⟨g,1,none⟩ (.int .i64 0):=by
 have hu:=Try.underlying193;obtain⟨i0,hi,hzz⟩:=Option.map_eq_some_iff.1 info3;simp only[Prod.mk.injEq] at hzz;have HI:=Ya hi;have HS1:=Ya hzz.2.1;clear hi hzz;have hg:=Yb w _ c0;have hb:=Yb w _ (hX 0 hm0);have C0:=Ya c0;have C1:=Ya c1;have F0:=Ya f0;have F1:=Ya f1;have HX:=Ya hX;have hmk:=made_ring X m (by omega);have q1:(m:Int)≤96:=by omega
 have q2:(0:Int)<(m:Int):=by omega
 clear hX;go_enter Try.func173,Try.ntmps173;go_wp2_with fail;clear hmk c0 c1 c2 f0 f1;go_loopw [2,16] (fun v2 v16 w'=> ∃ i:Nat,i≤m∧v16= .int .i64 i∧v2= .slice (some ⟨w.heap.size,0,none⟩) i (2 * m+4)∧Aside0 (w'.heap[w.heap.size]? =some (.cells (nums .i64 (ringAt X m i)).toArray 3 (0,0)))∧Aside0 (Below w.heap.size w w')) (fun _ v16 _=>m - (intOf v16).toNat)
 case atStart=>exact⟨0,Nat.zero_le _,rfl,rfl,⟨heap_alloc_new w _⟩,⟨Ye (Yo _ _) _⟩⟩
 case round=>
  obtain⟨i,hi,rfl,rfl,HR,HB⟩:=hrel;by_cases hlt:i<m
  ·have e1:decide ((i:Int)<(m:Int))=true:=Yv (by omega)
   have c0:=pw_cell_below HB.out C0.out;have c1:=pw_cell_below HB.out C1.out;have cx:=pw_cell_below HB.out (HX.out i hlt);have hwr:IntKind.i64.wrap ((fr:Int)+(i:Int))=(fr:Int)+(i:Int):=IntWalk.i64_in _ (by omega);have htm:Int.tmod ((fr:Int)+(i:Int)) (m:Int)=(((fr+i) % m:Nat):Int):=rfl;have hj1:=Nat.mod_lt (fr+i) hm0;generalize (fr+i) % m=j at cx htm hj1;have hj0:(0:Int)≤(j:Int):=by omega
   have hj2:(j:Int)<(m:Int):=by omega
   have hlw:=HB.out.size;have hmz: ¬ m=0:=by omega
   go_wp2_with fail;have KB:Below wr.heap.size wr (wr.alloc (.cells #[.int .i64 (X i)] 3)).drew:=below_drew (Ye (Yo _ _) _);have K0:=far_keep (H:=w.heap.size) (o:=0+i * 1) (vs:=[.int .i64 (X i)]) c0 KB (by show g≠_;omega);have K1:=far_keep (H:=w.heap.size) (o:=0+i * 1) (vs:=[.int .i64 (X i)]) c1 KB (by show g≠_;omega);have K2:=far_keep (H:=w.heap.size) (o:=0+i * 1) (vs:=[.int .i64 (X i)]) cx KB (by show b≠_;omega);have HR2:=Ya (ring_put (W:=(wr.alloc (.cells #[.int .i64 (X i)] 3)).drew) ((heap_alloc_old _ _ (blk_lt HR.out)).trans HR.out) hlt);have HB2:Aside0 (Below w.heap.size w ((wr.alloc (.cells #[.int .i64 (X i)] 3)).drew.setCells w.heap.size (0+i * 1) [.int .i64 (X i)])):=⟨below_cells (below_drew (Ye HB.out _)) (Nat.le_refl _)⟩;go_region_held3 (fun w'=>w'.cell? ⟨g,0,none⟩=some (.slice (some ⟨b,0,none⟩) m m)∧w'.cell? ⟨g,1,none⟩=some (.int .i64 fr)∧w'.cell? ⟨b,j,none⟩=some (.int .i64 (X i))) (first|exact⟨K0,K1,K2⟩|(go_split_ands;exact⟨K0,K1,K2⟩)|go_keep)
    ((refine step_append_room rfl _ _ _ (by rfl) 3 i0 1 Try.underlying25 HI.out HS1.out w.heap.size 0 i (2 * m+4) (by rfl) ⟨wr.heap.size,0,none⟩ 1 1 [.int .i64 (X i)] (by rfl) (by rfl) (World.news_of_block (cs:= #[.int .i64 (X i)]) (t:=3) (fr:=(0,0)) (heap_alloc_new _ _)) (by simp[Value.oneCell']) (by omega) (spare_ok HR.out (heap_alloc_old _ _ (blk_lt HR.out)) (by simp[nums,ringAt_len _ _ _ hi];omega)) ?_))
   clear K0 K1 K2 KB c0 c1 cx htm hwr;generalize (wr.alloc (.cells #[.int .i64 (X i)] 3)).drew.setCells w.heap.size (0+i * 1) [.int .i64 (X i)]=w9 at HR2 HB2 ⊢;go_wp2_with fail;go_roundw
   case rel=>exact⟨i+1,by omega,by go_num,rfl,HR2,HB2⟩
   case measure=>simp[intOf]<;>omega
  ·have ei:i=m:=by omega
   subst ei;have e1:decide ((i:Int)<(i:Int))=false:=Yw (by omega);have c0:=pw_cell_below HB.out C0.out;have c1:=pw_cell_below HB.out C1.out;have f0:wr.frozen? ⟨g,0,none⟩=false:=(HB.out.frozen (p:=⟨g,0,none⟩) hg).trans F0.out;have f1:wr.frozen? ⟨g,1,none⟩=false:=(HB.out.frozen (p:=⟨g,1,none⟩) hg).trans F1.out;go_wp2_with fail;refine bodyPost_end (results_none rfl _ _ _) rfl ⟨rfl,wr,HB.out,HR.out,rfl⟩
theorem ring_full (X:Nat→Int) (m i:Nat) (hi:i<m):(ringAt X m m).getD ((0+i) % (ringAt X m m).length) 0=X i:=by
 rw[ringAt_len X m m (Nat.le_refl _),Nat.zero_add,Nat.mod_eq_of_lt (by omega)];unfold ringAt;rw[List.getD_eq_getElem?_getD,List.getElem?_append_left (by simpa using hi)];simp[hi]
theorem que_grow (g:Nat) (A:Option Addr) (R:List Int) (fr mo:Nat) (w:World) (h:Qu w g A R fr R.length mo):
  Calls Try.prog 173 #[.pointer (some ⟨g,0,none⟩)] w fun e w'=>e= .returned (.tuple #[])∧ ∃ R',R'.length=2 * R.length+4∧Qu w' g (some ⟨w.heap.size,0,none⟩) R' 0 R.length mo∧qL R' 0 R.length=qL R fr R.length∧Ks (fun k=>k=g) w w':=by
 have hg:=blk_lt h.hd;have hs:=h.szm;have h50:=h.mo50;rcases h.ring with ⟨rfl,rfl⟩|⟨b,rfl,hp,hb⟩
 ·rcases h.frr with h1|⟨rfl,_⟩
  ·exact absurd h1 (by simp)
  refine(grow_nil g w ((Yc h.hd 0).trans rfl) ((Yc h.hd 2).trans rfl) (Yf h.hd 0) (Yf h.hd 1) ((Yc h.hd 1).trans rfl)).mono ?_;rintro e w' ⟨rfl,rfl⟩;have hw: ∀ o,(w.alloc o).heap[g]? =some (.cells #[.slice none 0 0, .int .i64 (0:Nat), .int .i64 (0:Nat), .int .i64 mo] 193 (0,0)):=fun o=>(heap_alloc_old _ _ hg).trans h.hd
  refine⟨rfl,ringAt (fun _=>0) 0 0,ringAt_len _ _ _ (Nat.le_refl _),⟨blk_set (blk_set (hw _) 0 _) 1 _, .inr ⟨_,rfl,by rw[ringAt_len _ _ _ (Nat.le_refl _)];omega,?_⟩,Nat.zero_le _, .inl (by rw[ringAt_len _ _ _ (Nat.le_refl _)];omega),hs,h50,by rw[ringAt_len _ _ _ (Nat.le_refl _)];omega⟩,rfl,?_⟩
  ·exact blk_far (blk_far (heap_alloc_new w _) (p:=⟨g,0,none⟩) (by show w.heap.size≠g;omega) _) (p:=⟨g,1,none⟩) (by show w.heap.size≠g;omega) _
  ·exact(((Ks.refl (fun k=>k=g) w).below (Ye (Yo _ _) _)).set (g:=g) (fun _=>rfl) 0 _).set (g:=g) (fun _=>rfl) 1 _
 ·have hfr:fr<R.length:=by
   rcases h.frr with h1|⟨_,h1⟩
   ·exact h1
   ·rw[h1] at hp;exact absurd hp (by simp)
  refine(grow_core g b R.length fr (fun i=>R.getD ((fr+i) % R.length) 0) w ((Yc h.hd 0).trans rfl) ((Yc h.hd 1).trans rfl) ((Yc h.hd 2).trans rfl) (fun i hi=>(Yc hb _).trans (nums_get R _ (Nat.mod_lt _ hp))) (Yf h.hd 0) (Yf h.hd 1) hp (by omega) hfr).mono ?_;rintro e w' ⟨rfl,w1,hbw,hr,rfl⟩;have hw:=(hbw.block g hg).trans h.hd;have hl:=ringAt_len (fun i=>R.getD ((fr+i) % R.length) 0) R.length R.length (Nat.le_refl _);refine⟨rfl,ringAt (fun i=>R.getD ((fr+i) % R.length) 0) R.length R.length,hl,⟨?_, .inr ⟨_,rfl,by omega,?_⟩,by omega, .inl (by omega),hs,h50,by omega⟩,?_,?_⟩
  ·have h2:=blk_set (blk_set hw 0 (.slice (some ⟨w.heap.size,0,none⟩) (2 * R.length+4) (2 * R.length+4))) 1 (.int .i64 0)
   rw[hl];exact h2
  ·exact blk_far (blk_far hr (p:=⟨g,0,none⟩) (by show w.heap.size≠g;omega) _) (p:=⟨g,1,none⟩) (by show w.heap.size≠g;omega) _
  ·unfold qL
   apply List.map_congr_left;intro i hi;exact ring_full _ _ _ (List.mem_range.1 hi)
  ·exact(((Ks.refl (fun k=>k=g) w).below hbw).set (g:=g) (fun _=>rfl) 0 _).set (g:=g) (fun _=>rfl) 1 _
end H
namespace H
open P
attribute [local irreducible] wpQuiet
set_option maxHeartbeats 2000000 in
set_option maxRecDepth 100000 in
theorem put_core (g b m fr sz mo j:Nat) (x:Int) (w:World) (c0:w.cell? ⟨g,0,none⟩=some (.slice (some ⟨b,0,none⟩) m m)) (c1:w.cell? ⟨g,1,none⟩=some (.int .i64 fr)) (c2:w.cell? ⟨g,2,none⟩=some (.int .i64 sz)) (c3:w.cell? ⟨g,3,none⟩=some (.int .i64 mo)) (y:Int) (cx:w.cell? ⟨b,j,none⟩=some (.int .i64 y)) (hj:(fr+sz) % m=j)
  (f2:w.frozen? ⟨g,2,none⟩=false) (fx:w.frozen? ⟨b,j,none⟩=false) (hne:g≠b) (hsm:sz<m) (hmo:sz<mo) (hm:m≤200) (hfr:fr<m) (hmo2:mo≤50):
  Calls Try.prog 165 #[.pointer (some ⟨g,0,none⟩), .int .i64 x] w fun e w'=>e= .returned (.int .i64 0)∧w'=((w.setCell ⟨b,j,none⟩ (.int .i64 x)).setCell ⟨g,2,none⟩ (.int .i64 ((sz:Int)+1))).drew.drew.drew:=by
 have hu:=Try.underlying193;have p0:(0:Int)≤(fr:Int):=by omega
 have p1:(fr:Int)<(m:Int):=by omega
 have p2:(m:Int)≤200:=by omega
 have p3:(sz:Int)<(m:Int):=by omega
 have p4:(0:Int)≤(sz:Int):=by omega
 have p5:(sz:Int)≤50:=by omega
 have p6:(0:Int)<(m:Int):=by omega
 have hj2:((fr:Int)+(sz:Int)) % (m:Int)=(j:Int):=by rw[← hj,Int.natCast_emod];rfl
 have hj1:(j:Int)<(m:Int):=by rw[← hj];have:=Nat.mod_lt (fr+sz) (show 0<m by omega);omega
 have hj0:(0:Int)≤(j:Int):=by omega
 have e1:((sz:Int) == (mo:Int))=false:=beq_eq_false_iff_ne.2 (by omega);have e2:((sz:Int) == (m:Int))=false:=beq_eq_false_iff_ne.2 (by omega);clear hj hsm hmo hfr;go_enter Try.func165,Try.ntmps165;go_wp2_with fail;go_region;go_wp2_with fail;go_region;go_wp2_with fail;go_region;go_wp2_with fail;go_ret;exact⟨rfl,rfl⟩
theorem qL_put (R:List Int) (fr sz:Nat) (x:Int) (h:sz<R.length):qL (R.set ((fr+sz) % R.length) x) fr (sz+1)=qL R fr sz ++ [x]:=by
 unfold qL;rw[List.range_succ,List.map_append,List.length_set];congr 1
 ·apply List.map_congr_left
  intro i hi;have hi:=List.mem_range.1 hi;rw[getD_set_ne];intro e;have h1:(fr+sz - (fr+i)) % R.length=0:=Nat.sub_mod_eq_zero_of_mod_eq e;rw[show fr+sz - (fr+i)=sz - i by omega,Nat.mod_eq_of_lt (by omega)] at h1;omega
 ·rw[List.map_cons,List.map_nil,getD_set_eq _ _ _ _ (Nat.mod_lt _ (by omega))]
theorem qu_put {w:World} {g b:Nat} {R:List Int} {fr sz mo:Nat} (h:Qu w g (some ⟨b,0,none⟩) R fr sz mo) (hs:sz<R.length) (hm:sz<mo) (x:Int):
  Qu ((w.setCell ⟨b,(fr+sz) % R.length,none⟩ (.int .i64 x)).setCell ⟨g,2,none⟩ (.int .i64 ((sz:Int)+1))) g (some ⟨b,0,none⟩) (R.set ((fr+sz) % R.length) x) fr (sz+1) mo:=by
 have hne:=h.ne;have hring:w.heap[b]? =some (.cells (nums .i64 R).toArray 3 (0,0)):=by
  rcases h.ring with ⟨h1,_⟩|⟨c,h1,h2,h3⟩
  ·cases h1
  ·cases h1;exact h3
 refine⟨?_, .inr ⟨b,rfl,by rw[List.length_set];omega,?_⟩,by rw[List.length_set];omega,?_,hm,h.mo50,by rw[List.length_set];exact h.len⟩
 ·rw[List.length_set]
  exact blk_set (blk_far h.hd (p:=⟨b,(fr+sz) % R.length,none⟩) hne _) 2 _
 ·have h1:=blk_far (blk_set hring ((fr+sz) % R.length) (.int .i64 x)) (p:=⟨g,2,none⟩) (Ne.symm hne) (.int .i64 ((sz:Int)+1))
  refine h1.trans ?_;simp[nums,List.map_set]
 ·rcases h.frr with h1|⟨_,h1⟩
  ·exact .inl (by rw[List.length_set];exact h1)
  ·rw[h1] at hs;exact absurd hs (by simp)
theorem que_put_room (g b:Nat) (R:List Int) (fr sz mo:Nat) (x:Int) (w:World) (h:Qu w g (some ⟨b,0,none⟩) R fr sz mo) (hs:sz<R.length) (hm:sz<mo):
  Calls Try.prog 165 #[.pointer (some ⟨g,0,none⟩), .int .i64 x] w fun e w'=>e= .returned (.int .i64 0)∧ ∃ R',Qu w' g (some ⟨b,0,none⟩) R' fr (sz+1) mo∧qL R' fr (sz+1)=qL R fr sz ++ [x]∧Ks (fun k=>k=g∨k=b) w w':=by
 have hring:w.heap[b]? =some (.cells (nums .i64 R).toArray 3 (0,0)):=by
  rcases h.ring with ⟨h1,_⟩|⟨c,h1,h2,h3⟩
  ·cases h1
  ·cases h1;exact h3
 have hfr:fr<R.length:=by
  rcases h.frr with h1|⟨_,h1⟩
  ·exact h1
  ·rw[h1] at hs;exact absurd hs (by simp)
 have hj:=Nat.mod_lt (fr+sz) (show 0<R.length by omega);have h50:=h.mo50;have hl:=h.len;refine(put_core g b R.length fr sz mo ((fr+sz) % R.length) x w ((Yc h.hd 0).trans rfl) ((Yc h.hd 1).trans rfl) ((Yc h.hd 2).trans rfl) ((Yc h.hd 3).trans rfl) _ ((Yc hring _).trans (nums_get R _ hj)) rfl (Yf h.hd 2) (Yf hring _) h.ne hs hm (by omega) hfr h50).mono ?_;rintro e w' ⟨rfl,rfl⟩;exact⟨rfl,_,(qu_put h hs hm x).below (below_drew (below_drew (below_drew (Yo _ _)))),qL_put R fr sz x hs,(((Ks.refl (fun k=>k=g∨k=b) w).set (g:=b) (fun _=> .inr rfl) _ _).set (g:=g) (fun _=> .inl rfl) _ _).below (below_drew (below_drew (below_drew (Yo _ _))))⟩
theorem que_grow_ (g:Nat) (A:Option Addr) (R:List Int) (fr m mo:Nat) (w:World) (hm:R.length=m) (h:Qu w g A R fr m mo):
  Calls Try.prog 173 #[.pointer (some ⟨g,0,none⟩)] w fun e w'=>e= .returned (.tuple #[])∧ ∃ R',R'.length=2 * m+4∧Qu w' g (some ⟨w.heap.size,0,none⟩) R' 0 m mo∧qL R' 0 m=qL R fr m∧Ks (fun k=>k=g) w w':=by
 subst hm;exact que_grow g A R fr mo w h
set_option maxHeartbeats 2000000 in
set_option maxRecDepth 100000 in
theorem que_put_grow (g:Nat) (A:Option Addr) (R:List Int) (fr mo:Nat) (x:Int) (w:World) (h:Qu w g A R fr R.length mo) (hm:R.length<mo):
  Calls Try.prog 165 #[.pointer (some ⟨g,0,none⟩), .int .i64 x] w fun e w'=>e= .returned (.int .i64 0)∧ ∃ b R',w.heap.size≤b∧Qu w' g (some ⟨b,0,none⟩) R' 0 (R.length+1) mo∧qL R' 0 (R.length+1)=qL R fr R.length ++ [x]∧Ks (fun k=>k=g) w w':=by
 have hu:=Try.underlying193;have H:=Ya h;have h50:=h.mo50;have c0:w.cell? ⟨g,0,none⟩=some (.slice A R.length R.length):=(Yc h.hd 0).trans rfl;have c2:w.cell? ⟨g,2,none⟩=some (.int .i64 R.length):=(Yc h.hd 2).trans rfl;have c3:w.cell? ⟨g,3,none⟩=some (.int .i64 mo):=(Yc h.hd 3).trans rfl;generalize hml:R.length=m at *;have HML:=Ya hml;clear hml h;have p4:(0:Int)≤(m:Int):=by omega
 have p5:(m:Int)≤50:=by omega
 have e1:((m:Int) == (mo:Int))=false:=beq_eq_false_iff_ne.2 (by omega);go_enter Try.func165,Try.ntmps165;go_wp2_with fail;go_region;go_wp2_with fail;go_region;go_wp2_with fail;clear c0 c2 c3;go_wp2_with (first|(go_at_call 173;refine(que_grow_ g A R fr m mo _ HML.out (H.out.below (below_drew (below_drew (Yo _ _))))).mono ?_;rintro e_ w3 ⟨rfl,R',hl',hq,hql,hk⟩;obtain⟨b,hbe⟩: ∃ b_,b_=w.heap.size:=⟨_,rfl⟩;(have hq:Qu w3 g (some ⟨b,0,none⟩) R' 0 m mo:=by(rw[hbe];exact hq));have HBE:=Ya hbe;clear hbe;have HQ:=Ya hq;have HQL:=Ya hql;have HK:=Ya hk;clear hq hql hk;obtain⟨M,hM⟩: ∃ M_,M_=R'.length:=⟨_,rfl⟩;have c0:w3.cell? ⟨g,0,none⟩=some (.slice (some ⟨b,0,none⟩) M M):=by(rw[hM];exact(Yc HQ.out.hd 0).trans rfl))|fail);have hm1:m<M:=by omega
 have hm2:M≤104:=by omega
 have hring:w3.heap[b]? =some (.cells (nums .i64 R').toArray 3 (0,0)):=by
  rcases HQ.out.ring with ⟨h1,_⟩|⟨c,h1,h2,h3⟩
  ·cases h1
  ·cases h1;exact h3
 have hne:=HQ.out.ne;have c1:w3.cell? ⟨g,1,none⟩=some (.int .i64 0):=(Yc HQ.out.hd 1).trans rfl;have c2:w3.cell? ⟨g,2,none⟩=some (.int .i64 m):=(Yc HQ.out.hd 2).trans rfl;have cx:w3.cell? ⟨b,m,none⟩=some (.int .i64 (R'.getD m 0)):=(Yc hring _).trans (nums_get R' _ (by omega));have fx:w3.frozen? ⟨b,m,none⟩=false:=Yf hring _;have f2:=Yf HQ.out.hd 2;generalize R'.getD m 0=yy at cx;have HM:=Ya hM;have HL:=Ya hl';clear hM hl' hring;have q0:(0:Int)<(M:Int):=by omega
 have q1:(m:Int)<(M:Int):=by omega
 have q2:(M:Int)≤104:=by omega
 have hj2:(m:Int) % (M:Int)=(m:Int):=Int.emod_eq_of_lt p4 q1;go_wp2_with fail;go_region;go_wp2_with fail;go_ret;have hmod:(0+m) % R'.length=m:=by rw[← HM.out,Nat.zero_add,Nat.mod_eq_of_lt hm1]
 have h1:=qu_put HQ.out (by rw[← HM.out];exact hm1) hm x;have h2:=qL_put R' 0 m x (by rw[← HM.out];exact hm1);rw[hmod] at h1 h2;refine⟨rfl,b,R'.set m x,by rw[HBE.out];exact Nat.le_refl _,?_,?_,?_⟩
 ·exact h1.below (below_drew (Yo _ _))
 ·exact h2.trans (by rw[HQL.out])
 ·have hk:Ks (fun k=>k=g) w w3:=HK.out.trans' (below_drew (below_drew (Yo _ _)))
  exact(((hk.set (g:=b) (fun hlt=>absurd hlt (by rw[HBE.out];exact Nat.lt_irrefl _)) _ _).set (g:=g) (fun _=>rfl) _ _)).below (below_drew (Yo _ _))
theorem que_new (mo:Nat) (w:World) (h50:mo≤50):
  Calls Try.prog 164 #[.int .i64 (mo:Int)] w fun e w'=> ∃ g,e= .returned (.tuple #[.pointer (some ⟨g,0,none⟩), .int .i64 0])∧w.heap.size≤g∧Qu w' g none [] 0 0 mo∧Below w.heap.size w w':=by
 have hrm:pile_room.f (mo:Int)=some true:=by
  unfold pile_room.f;rw[Yx (by omega)];simp;omega
 have HRM:=Ya hrm;clear hrm;have hu:=Try.underlying193;go_enter Try.func164,Try.ntmps164;go_wp2_with (first|(go_at_call 172;refine(pile_room.calls (mo:Int) true _ HRM.out).mono ?_;rintro e_ w1 ⟨rfl,hd⟩;have HD:=Ya hd.below;clear hd)|fail);go_ret2;have hw:=heap_alloc_new w1 (.cells #[.slice none 0 0, .int .i64 0, .int .i64 0, .int .i64 mo] 193);exact⟨w1.heap.size,rfl,HD.out.size,⟨hw, .inl ⟨rfl,rfl⟩,Nat.le_refl _, .inr ⟨rfl,rfl⟩,Nat.zero_le _,h50,Nat.zero_le _⟩,Ye HD.out _⟩
theorem que_put (g:Nat) (A:Option Addr) (R:List Int) (fr sz mo:Nat) (x:Int) (w:World) (h:Qu w g A R fr sz mo) (hm:sz<mo):
  Calls Try.prog 165 #[.pointer (some ⟨g,0,none⟩), .int .i64 x] w fun e w'=>e= .returned (.int .i64 0)∧ ∃ (A':Option Addr) (R':List Int) (fr':Nat),Qu w' g A' R' fr' (sz+1) mo∧qL R' fr' (sz+1)=qL R fr sz ++ [x]∧Ks (quS g A) w w'∧ ∀ k,quS g A' k→quS g A k∨w.heap.size≤k:=by
 by_cases hs:sz<R.length
 ·rcases h.ring with ⟨_,h1⟩|⟨b,rfl,_,_⟩
  ·rw[h1] at hs;exact absurd hs (by simp)
  ·refine(que_put_room g b R fr sz mo x w h hs hm).mono ?_
   rintro e w' ⟨rfl,R',h1,h2,h3⟩;exact⟨rfl,_,R',fr,h1,h2,h3.mono (fun k hk _=>hk.elim .inl (fun h=> .inr ⟨_,rfl,h⟩)),fun k hk=> .inl hk⟩
 ·have e:sz=R.length:=by have:=h.szr;omega
  subst e;refine(que_put_grow g A R fr mo x w h hm).mono ?_;rintro e w' ⟨rfl,b,R',h1,h2,h3,h4⟩;refine⟨rfl,_,R',0,h2,h3,h4.mono (fun k hk _=> .inl hk),fun k hk=> ?_⟩;rcases hk with rfl|⟨a,ha,rfl⟩
  ·exact .inl (.inl rfl)
  ·cases ha;exact .inr h1
end H
namespace P
attribute [local go_sem] max2_int min2_int max_two min_two max_three min_three max_four min_four
def bits_Mul64.f (a0:Int) (a1:Int):Option (Int × Int):=some (IntKind.u64.wrap ((IntKind.u64.wrap ((IntKind.u64.wrap ((a0 / 4294967296) * (a1 / 4294967296)))+((IntKind.u64.wrap ((IntKind.u64.wrap ((a0 / 4294967296) * (Go.bits .and .u64 a1 4294967295)))+((IntKind.u64.wrap ((Go.bits .and .u64 a0 4294967295) * (Go.bits .and .u64 a1 4294967295))) / 4294967296))) / 4294967296)))+((IntKind.u64.wrap ((Go.bits .and .u64 (IntKind.u64.wrap ((IntKind.u64.wrap ((a0 / 4294967296) * (Go.bits .and .u64 a1 4294967295)))+((IntKind.u64.wrap ((Go.bits .and .u64 a0 4294967295) * (Go.bits .and .u64 a1 4294967295))) / 4294967296))) 4294967295)+(IntKind.u64.wrap ((Go.bits .and .u64 a0 4294967295) * (a1 / 4294967296))))) / 4294967296)),IntKind.u64.wrap (a0 * a1))
set_option maxHeartbeats 8000000 in
set_option maxRecDepth 100000 in
theorem bits_Mul64.calls (a0:Int) (a1:Int) (r1:Int) (r2:Int) (w:World) (h:bits_Mul64.f a0 a1=some (r1,r2)):
  Calls Try.prog 177 #[.int .u64 a0, .int .u64 a1] w fun e w'=>e= .returned (.tuple #[.int .u64 r1, .int .u64 r2])∧Drawn0 w w':=by
 have H:(some (IntKind.u64.wrap ((IntKind.u64.wrap ((IntKind.u64.wrap ((a0 / 4294967296) * (a1 / 4294967296)))+((IntKind.u64.wrap ((IntKind.u64.wrap ((a0 / 4294967296) * (Go.bits .and .u64 a1 4294967295)))+((IntKind.u64.wrap ((Go.bits .and .u64 a0 4294967295) * (Go.bits .and .u64 a1 4294967295))) / 4294967296))) / 4294967296)))+((IntKind.u64.wrap ((Go.bits .and .u64 (IntKind.u64.wrap ((IntKind.u64.wrap ((a0 / 4294967296) * (Go.bits .and .u64 a1 4294967295)))+((IntKind.u64.wrap ((Go.bits .and .u64 a0 4294967295) * (Go.bits .and .u64 a1 4294967295))) / 4294967296))) 4294967295)+(IntKind.u64.wrap ((Go.bits .and .u64 a0 4294967295) * (a1 / 4294967296))))) / 4294967296)),IntKind.u64.wrap (a0 * a1)))=some (r1,r2):=h;clear h;simp only[Option.some.injEq,Prod.mk.injEq] at H;obtain⟨rfl,rfl⟩:=H;go_enter Try.func177,Try.ntmps177;go_wp2;go_ret2;exact⟨by first|rfl|(simp;done)|(simp[*];done),by repeat(first|exact Drawn0.refl _|apply Drawn0.step)⟩
end P
namespace P
attribute [local go_sem] max2_int min2_int max_two min_two max_three min_three max_four min_four
def bits_Mul.f (a0:Int) (a1:Int):Option (Int × Int):=(bits_Mul64.f a0 a1).bind fun bt438=>(some (bt438.1,bt438.2))
set_option maxHeartbeats 8000000 in
set_option maxRecDepth 100000 in
theorem bits_Mul.calls (a0:Int) (a1:Int) (r1:Int) (r2:Int) (w:World) (h:bits_Mul.f a0 a1=some (r1,r2)):
  Calls Try.prog 171 #[.int .u64 a0, .int .u64 a1] w fun e w'=>e= .returned (.tuple #[.int .u64 r1, .int .u64 r2])∧Drawn0 w w':=by
 have H:((bits_Mul64.f a0 a1).bind fun bt438=>(some (bt438.1,bt438.2)))=some (r1,r2):=h;clear h;replace H:=Option.bind_eq_some_iff.mp H;obtain⟨⟨t438,t439⟩,A30,H⟩:=H;replace H:(some (t438,t439))=some (r1,r2):=H;have A3:=Ya A30;clear A30;simp only[Option.some.injEq,Prod.mk.injEq] at H;obtain⟨rfl,rfl⟩:=H;go_enter Try.func171,Try.ntmps171;go_wp2_with (first|((with_reducible refine gate_callee (f:=177) rfl ?_);refine goesL_ (some 25) rfl rfl Try.func177 (by kernel_rfl) rfl #[.int .u64 a0, .int .u64 a1] rfl (by(try simp only[List.map_toArray,List.map_cons,List.map_nil]);first|done|rfl|(simp only[List.length_drop,List.length_take];rfl)) ?_;(with_reducible refine(bits_Mul64.calls a0 a1 t438 t439 _ A3.out).mono ?_);rintro e w' ⟨rfl,⟨nd,rfl⟩⟩;refine⟨_,rfl,?_⟩));go_ret2;exact⟨by first|rfl|(simp;done)|(simp[*];done),by repeat(first|exact Drawn0.refl _|apply Drawn0.step)⟩
end P
namespace H
open P
attribute [local irreducible] wpQuiet
theorem mul_small: ∀ n:Nat,n<51→bits_Mul.f 1 (n:Int)=some (0,(n:Int)):=by decide +kernel
theorem info3s:(Try.prog.info? 3).map (·.size)=some 1:=by kernel_rfl
def repAt (x:Int) (n k:Nat):List Value:=nums .i64 (List.replicate k x ++ List.replicate (n - k) 0)
theorem repAt_len (x:Int) (n k:Nat) (h:k≤n):(repAt x n k).length=n:=by simp[repAt,nums];omega
theorem made_rep (x:Int) (n:Nat) (hn:n≤50): ∀ W:World,(Instr.makeSlice 25 (.int .i64 (n:Int)) (.int .i64 (n:Int))).run Try.prog W= .ok (.slice (some ⟨W.heap.size,0,none⟩) n n) (W.alloc (.cells (repAt x n 0).toArray 3)):=by
 intro W;rw[print_make 25 3 .i64 8 Try.underlying25 (by kernel_rfl) (by omega) n (by omega) W];have hl:(madeCells #[Value.int .i64 0] n)=(repAt x n 0).toArray:=by
  apply Array.ext';apply List.ext_getElem
  ·simp[repAt,nums,madeCells]
  ·intro i h1 h2
   simp[repAt,nums,madeCells,Nat.mod_one]
 rw[hl]
theorem repAt_splice (x:Int) (n k m:Nat) (hk:k+m≤n):splice (repAt x n k) k (nums .i64 (List.replicate m x))=repAt x n (k+m):=by
 unfold repAt nums;simp only[List.map_append,List.map_replicate];unfold splice;rw[List.take_append_of_le_length (by simp),List.take_of_length_le (by simp),List.drop_append,List.drop_eq_nil_of_le (by simp),List.nil_append, ← List.append_assoc,List.replicate_append_replicate];simp;omega
theorem nums_one (L:List Int): ∀ v,v∈nums .i64 L→v.oneCell'=true:=by
 intro v hv;obtain⟨_,_,rfl⟩:=List.mem_map.1 hv;rfl
theorem one_cell {W:World} {b:Nat} {u:Value} (hc:W.cell? ⟨b,0,none⟩=some u): ∀ (j:Nat) (v:Value),[u][j]? =some v→W.cell? ((⟨b,0,none⟩:Addr).add j)=some v:=by
 intro j v hv;cases j with
 |zero=>rw[add_plain];injection hv with hv;rw[← hv];exact hc
 |succ j=>cases hv
set_option maxHeartbeats 2000000 in
set_option maxRecDepth 100000 in
theorem repeat_core (b c n:Nat) (x:Int) (w:World) (hb:w.cell? ⟨b,0,none⟩=some (.int .i64 x)) (hn0:0<n) (hn:n≤50):
  Calls Try.prog 163 #[.slice (some ⟨b,0,none⟩) 1 1, .int .i64 (n:Int)] w fun e w'=>e= .returned (.slice (some ⟨w.heap.size,0,none⟩) n n)∧w'.heap[w.heap.size]? =some (.cells (nums .i64 (List.replicate n x)).toArray 3 (0,0))∧Below w.heap.size w w':=by
 have hmul:=mul_small n (by omega);have HM:=Ya hmul;clear hmul;have hmk:=made_rep x n hn;have hbl:=Yb w _ hb;have HBC:=Ya hb;have q1:(n:Int)≤50:=by omega
 have q2:(0:Int)<(n:Int):=by omega
 have e1:decide ((n:Int)<0)=false:=Yw (by omega);go_enter Try.func163,Try.ntmps163;go_wp2_with (first|(go_at_call 171;refine(bits_Mul.calls 1 (n:Int) 0 (n:Int) _ HM.out).mono ?_;rintro e_ w1 ⟨rfl,hd⟩;obtain⟨nq,hnq⟩:=hd.out;subst hnq)|((with_reducible refine wpList_copy_splice rfl (.tmp 31) (.tmp 32) 25 25 rfl 3 Try.underlying25 info3s (some ⟨w.heap.size,0,none⟩) (some ⟨b,0,none⟩) n n 1 1 rfl rfl w.heap.size 0 (repAt x n 0) 3 (heap_alloc_new _ _) [.int .i64 x] ?cn (fun _=>⟨rfl,⟨b,0,none⟩,rfl,?cc⟩) ?cf ?c1 w.heap.size w ?cb (Nat.le_refl _) ?_);(case cn=>(show 1=min 1 n;omega));(case cc=>exact one_cell (pw_cell_below (Ye (Yd (Yo _ _) nq) _) HBC.out));(case cf=>(rw[repAt_len x n 0 (Nat.zero_le _)];show 0+1≤n;omega));(case c1=>simp[Value.oneCell']);(case cb=>exact Ye (Yd (Yo _ _) nq) _);intro w2 hr hbw;have HR:=Ya (hr.trans (by rw[show ([.int .i64 x]:List Value)=nums .i64 (List.replicate 1 x) from rfl,repAt_splice x n 0 1 (by omega)]));have HB:=Ya hbw;clear hr hbw)|fail);clear hmk;go_loopw [8] (fun v8 w'=> ∃ k:Nat,0<k∧k≤n∧v8= .int .i64 k∧Aside0 (w'.heap[w.heap.size]? =some (.cells (repAt x n k).toArray 3 (0,0)))∧Aside0 (Below w.heap.size w w')) (fun v8 _=>n - (intOf v8).toNat)
 case atStart=>exact⟨1,by omega,by omega,rfl,HR,HB⟩
 case round=>
  clear HR HB;obtain⟨k,hk0,hk,rfl,HR,HB⟩:=hrel;by_cases hlt:k<n
  ·have e2:decide ((k:Int)<(n:Int))=true:=Yv (by omega)
   have r0:(0:Int)≤(k:Int):=by omega
   have r1:(k:Int)≤(n:Int):=by omega
   have r2:(k:Int)<(n:Int):=by omega
   have r3: ¬ n=k:=by omega
   obtain⟨m,hm⟩: ∃ m_,m_=min k (n - k):=⟨_,rfl⟩;have hm1:k+m≤n:=by omega
   have hm2:0<m:=by omega
   have hm3:m≤k:=by omega
   have hsrc: ∀ (W:World),W.heap=wr.heap→ ∀ (j:Nat) (v:Value),(nums .i64 (List.replicate m x))[j]? =some v→W.cell? ((⟨w.heap.size,0,none⟩:Addr).add j)=some v:=by
    intro W hW j v hv;rw[add_plain,World.cell?_of_block (w:=wr) (by rw[hW]),Yc HR.out j];have hj:j<m:=by have:=(List.getElem?_eq_some_iff.1 hv).1;simpa [nums] using this
    rw[← hv];simp only[repAt,nums,List.map_append,List.map_replicate,List.getElem?_toArray];rw[List.getElem?_append_left (by simp;omega),List.getElem?_replicate,List.getElem?_replicate,Yx (by omega),Yx hj]
   have HS:=Ya hsrc;have HM2:Aside0 ((nums .i64 (List.replicate m x)).length=Nat.min k (n - k)):=⟨by rw[nums_length,List.length_replicate];exact hm⟩;have HFT:Aside0 (k+(nums .i64 (List.replicate m x)).length≤(repAt x n k).length):=⟨by rw[repAt_len x n k hk,nums_length,List.length_replicate];exact hm1⟩;clear hsrc hm;have hwr:IntKind.i64.wrap ((k:Int)+(m:Int))=(k:Int)+(m:Int):=IntWalk.i64_in _ (by omega);go_wp2_with fail;go_region_held3 (fun w'=>True) (trivial)
    ((refine step_copy_splice rfl _ _ 25 25 (by rfl) 3 Try.underlying25 info3s (some ⟨w.heap.size,k,none⟩) (some ⟨w.heap.size,0,none⟩) (n - k) (n - k) k n (by rfl) (by rfl) w.heap.size k (repAt x n k) 3 HR.out _ HM2.out (fun _=>⟨rfl,⟨w.heap.size,0,none⟩,rfl,HS.out _ (by rfl)⟩) HFT.out (nums_one _) w.heap.size w (below_drew HB.out) (Nat.le_refl _) ?_;intro w9 hr9 hb9))
   have HR9:Aside0 (w9.heap[w.heap.size]? =some (.cells (repAt x n (k+m)).toArray 3 (0,0))):=⟨by rw[← repAt_splice x n k m hm1];exact hr9⟩;have HB9:=Ya hb9;rw[nums_length,List.length_replicate,hwr];clear hr9 hb9 hwr HM2 HFT HS;go_wp2_with fail;go_roundw
   case rel=>exact⟨k+m,by omega,hm1,by go_num,HR9,HB9⟩
   case measure=>simp[intOf];omega
  ·have ek:k=n:=by omega
   subst ek;have e2:decide ((k:Int)<(k:Int))=false:=Yw (by omega);go_wp2_with fail;go_ret;exact⟨rfl,HR.out.trans (by simp[repAt]),HB.out⟩
end H
namespace H
theorem exists_least {P:Nat→Prop} : ∀ m,P m→ ∃ n,P n∧ ∀ k,P k→n≤k:=by
 intro m
 induction m using Nat.strongRecOn with
 |_ m ih=>
  intro hm;by_cases h: ∃ k,k<m∧P k
  ·obtain⟨k,hk,hp⟩:=h
   exact ih k hk hp
  ·exact⟨m,hm,fun k hk=>Nat.le_of_not_lt fun hl=>h ⟨k,hl,hk⟩⟩
open Classical in
noncomputable def least (P:Nat→Prop):Nat:=if h: ∃ n,P n∧ ∀ k,P k→n≤k then Classical.choose h else 0
theorem least_both {P:Nat→Prop} (h: ∃ m,P m):P (least P)∧ ∀ k,P k→least P≤k:=by
 obtain⟨m,hm⟩:=h;unfold least;rw[dif_pos (exists_least m hm)];exact Classical.choose_spec (exists_least m hm)
theorem least_spec {P:Nat→Prop} (h: ∃ m,P m):P (least P):=(least_both h).1
theorem least_le {P:Nat→Prop} {m:Nat} (h:P m):least P≤m:=(least_both ⟨m,h⟩).2 m h
theorem least_lt {P Q:Nat→Prop} {m:Nat} (h:Q m) (hm:m<least P):least Q<least P:=Nat.lt_of_le_of_lt (least_le h) hm
end H
namespace H
open P
attribute [local irreducible] wpQuiet
def stz (n:Nat):List Value:=stC (List.replicate n z38)
theorem made_steps (n:Nat) (hn:n≤50): ∀ W:World,(Instr.makeSlice 34 (.int .i64 (n:Int)) (.int .i64 (n:Int))).run Try.prog W= .ok (.slice (some ⟨W.heap.size,0,none⟩) n n) (W.alloc (.cells (stz n).toArray 38)):=by
 intro W;obtain⟨i0,hi,hzz⟩:=Option.map_eq_some_iff.1 info38;simp only[Prod.mk.injEq] at hzz;obtain⟨hz0,hz1,hz2⟩:=hzz;have hr:=run_make (P:=Try.prog) W 34 38 i0 _ Try.underlying34 hi hz0 .i64 .i64 (n:Int) (n:Int) (by omega) (by omega) (by rw[hz2];omega) (by omega);rw[hz1] at hr;simp only[Int.toNat_natCast] at hr;have hl:(madeCells (Value.agg #[.int .i64 0, .bool false]).cells (n * 2))=(stz n).toArray:=by
  apply Array.ext';apply List.ext_getElem?;intro i;unfold stz;by_cases h:i<n * 2
  ·have h2:=stC_get z38 (List.replicate n z38) (i / 2) (by simp;omega)
   have hg:(List.replicate n z38).getD (i / 2) z38=z38:=by
    rw[List.getD_eq_getElem?_getD,List.getElem?_replicate,Yx (by omega)];rfl
   rw[hg] at h2;rcases Nat.mod_two_eq_zero_or_one i with hm|hm
   ·rw[show i / 2 * 2=i by omega] at h2
    show _=(stC _)[i]?;rw[h2.1];simp[madeCells,Value.cells,h,hm,z38]
   ·rw[show i / 2 * 2+1=i by omega] at h2
    show _=(stC _)[i]?;rw[h2.2];simp[madeCells,Value.cells,h,hm,z38]
  ·rw[List.getElem?_eq_none (by simp[size_madeCells];omega),List.getElem?_eq_none (by simp[stC_len];omega)]
 rw[← hl];exact hr
structure Sm (n0:Nat) (Zb:Bool) (A2:Option Addr) (c2:Nat) (l:List S74) (A3:Option Addr) (c3:Nat) (F:List Int) (A4:Option Addr) (c4:Nat) (g3 gd gb gq:Nat) (w:World) (st:List (Fd S38)) (i:Nat) (w':World):Prop where
 D:IsI w' gd (dOf n0 st)
 B:IsS w' gb (bOf z38 n0 st)
 b3:w'.heap[g3]? =some (.cells #[.int .i64 n0, .bool Zb, .slice A2 l.length c2, .slice A3 F.length c3, .slice A4 n0 c4] 118 (0,0))
 que: ∃ (A:Option Addr) (R:List Int) (fr:Nat),Qu w' gq A R fr (st.length - i) n0∧qL R fr (st.length - i)=qOf st i∧ ∀ k,quS gq A k→w.heap.size≤k∧k≠gd∧k≠gb∧k≠g3
 below:Below w.heap.size w w'
theorem Sm.step {n0:Nat} {Zb:Bool} {A2:Option Addr} {c2:Nat} {l:List S74} {A3:Option Addr} {c3:Nat} {F:List Int} {A4:Option Addr} {c4:Nat} {g3 gd gb gq:Nat} {w:World} {st:List (Fd S38)} {i:Nat} {w1 w2:World}
  (h:Sm n0 Zb A2 c2 l A3 c3 F A4 c4 g3 gd gb gq w st i w1) (hb:Below w1.heap.size w1 w2):Sm n0 Zb A2 c2 l A3 c3 F A4 c4 g3 gd gb gq w st i w2:=by
 obtain⟨A,R,fr,h1,h2,h3⟩:=h.que;exact⟨h.D.below hb,h.B.below hb,Yn h.b3 hb,⟨A,R,fr,h1.below hb,h2,h3⟩,Yk h.below hb⟩
def seekW (w:World) (gd gb u:Nat) (a:Int) (e:S38):World:=(((w.setCell ⟨gd,u,none⟩ (.int .i64 a)).setCell ⟨gb,u * 2,none⟩ (.int .i64 e.f0)).setCell ⟨gb,u * 2+1,none⟩ (.bool e.f1)).drew
theorem seek_far (w:World) {gd gb g:Nat} (u:Nat) (a:Int) (e:S38) (h1:g≠gd) (h2:g≠gb):(seekW w gd gb u a e).heap[g]? =w.heap[g]? :=
 (Below.heap_setCell _ ⟨gb,u * 2+1,none⟩ _ g h2).trans ((Below.heap_setCell _ ⟨gb,u * 2,none⟩ _ g h2).trans (Below.heap_setCell _ ⟨gd,u,none⟩ _ g h1))
theorem seek_D {w:World} {gd gb:Nat} {D:List Int} (h:IsI w gd D) (hne:gd≠gb) (u:Nat) (a:Int) (e:S38):IsI (seekW w gd gb u a e) gd (D.set u a):=
 IsI.below ((((h.put u a).far (p:=⟨gb,u * 2,none⟩) hne _)).far (p:=⟨gb,u * 2+1,none⟩) hne _) (below_drew (Yo _ _))
theorem seek_B {w:World} {gd gb:Nat} {B:List S38} (h:IsS w gb B) (hne:gd≠gb) (u:Nat) (a:Int) (e:S38):IsS (seekW w gd gb u a e) gb (B.set u e):=
 IsS.below ((h.far (p:=⟨gd,u,none⟩) (Ne.symm hne) _).put u e) (below_drew (Yo _ _))
def SR (n0:Nat) (Zb:Bool) (A2:Option Addr) (c2:Nat) (l:List S74) (A3:Option Addr) (c3:Nat) (F:List Int) (A4:Option Addr) (c4:Nat) (g3 gd gb gq s:Nat) (t:Int) (w w':World) (m:Nat):Prop:=
 ∃ (st:List (Fd S38)) (i:Nat),m=n0 - i∧Lp l F n0 s t st i∧Sm n0 Zb A2 c2 l A3 c3 F A4 c4 g3 gd gb gq w st i w'
set_option maxHeartbeats 2000000 in
set_option maxRecDepth 100000 in
theorem seek_calls (n0:Nat) (Zb:Bool) (A2:Option Addr) (c2:Nat) (l:List S74) (A3:Option Addr) (c3:Nat) (F:List Int) (A4:Option Addr) (c4:Nat) (s:Nat) (t:Int) (w:World)
  (hR:Right l F n0) (hs:s<n0) (hts:t≠s) (hc2:l.length≤c2) (hc3:F.length≤c3) (h2:Kd.C k74 w A2 l.length l) (h3:Kd.C (Kd.int .i64) w A3 F.length F) (h4:(Kd.slice 38 k38).C w A4 n0 (rowsAt l n0 n0)):
  Calls Try.prog 145 #[.agg #[.int .i64 n0, .bool Zb, .slice A2 l.length c2, .slice A3 F.length c3, .slice A4 n0 c4], .int .i64 (s:Int), .int .i64 t] w fun e w'=> ∃ (gd gb:Nat) (st:List (Fd S38)),e= .returned (.tuple #[.slice (some ⟨gd,0,none⟩) n0 n0, .slice (some ⟨gb,0,none⟩) n0 n0])∧w.heap.size≤gd∧w.heap.size≤gb∧gd≠gb∧IsI w' gd (dOf n0 st)∧IsS w' gb (bOf z38 n0 st)∧Below w.heap.size w w'∧Seen l F n0 s t st:=by
 have hu24:=Try.underlying24;have hu115:=Try.underlying115;have hu118:=Try.underlying118;have HR:=Ya hR;have HC2:=Ya hc2;have HC3:=Ya hc3;have H2:=Ya h2;have H3:=Ya h3;have H4:=Ya h4;have HTS:=Ya hts;have hn50:n0≤50:=hR.fifty;have hn0:0<n0:=hR.pos;obtain⟨ad4,eA4⟩: ∃ ad,A4=some ad:=by
  obtain⟨ad,c,h_,_⟩:=Kd.C_get H4.out [] (0:Int) (by omega) (by omega);exact⟨ad,h_⟩
 subst eA4;have hmk:=made_steps n0 hn50;have HB:=Ya (Yo w.heap.size w);clear hR h2 h3 h4 hc2 hc3 hts;go_enter Try.func145,Try.ntmps145;go_upto_region 1 with (first|((with_reducible refine gate_dst (N:=3) rfl ?_);refine Yz ?hg (N:=3) ?hd (cs:= #[.int .i64 n0, .bool Zb, .slice A2 l.length c2, .slice A3 F.length c3, .slice (some ad4) n0 c4]) (t:=118) ?hr ?_;(case hd=>rfl);(case hg=>rfl);(case hr=>first|(go_simp;done)|(go_simp;rfl));intro g3 hg w5 Zf hb;have n0_:=Ya (Yk HB.out hb);have B3:=Ya Zf;clear HB;have HB:=n0_;have GE3:Aside0 (w.heap.size≤g3):=⟨Nat.le_of_eq hg.symm⟩;clear n0_ hb Zf hg)|fail)
 have hc0:w5.cell? ⟨g3,0,none⟩=some (.int .i64 n0):=(Yc B3.out 0).trans rfl;go_step3;go_upto_region 1 with fail
 go_cut [6,7] (fun v6 v7 wx=> ∃ gd gb:Nat,v6= .slice (some ⟨gd,0,none⟩) n0 n0∧v7= .slice (some ⟨gb,0,none⟩) n0 n0∧Aside0 (IsI wx gd (List.replicate n0 (-1)))∧Aside0 (IsS wx gb (List.replicate n0 z38))∧Aside0 (w5.heap.size≤gd∧w5.heap.size≤gb∧gd≠gb)∧Aside0 (Below w5.heap.size w5 wx))
 case first=>
  go_region_held3 (fun w'=>w'.cell? ⟨g3,0,none⟩=some (.int .i64 n0)) (first|(exact pw_cell_below (below_drew (Yo _ _)) (by assumption))|(exact pw_cell_below (Ye (Yo _ _) _) (by assumption))|(exact pw_cell_below hbr (by assumption))|go_keep)
   (first|(go_at_call 163;refine(repeat_core _ 1 n0 (-1) _ (by simp[go_sem]) hn0 hn50).mono ?_;rintro e_ w6 ⟨rfl,hrep,hbr⟩))
  ·go_wp2_with fail
   go_meet;have hbb:=Yk (below_drew (Ye (Yo w5.heap.size w5) _)) hbr;have hsz:=hbr.size;have e1:(w5.alloc (.cells #[.int .i64 (-1)] 3)).drew.heap.size=w5.heap.size+1:=by simp
   rw[e1] at hrep hsz;exact⟨w5.heap.size+1,w6.heap.size,rfl,rfl,⟨IsI.below hrep (Ye (Yo _ _) _)⟩,⟨heap_alloc_new w6 _⟩,⟨Nat.le_succ _,Nat.le_of_succ_le hsz,Nat.ne_of_lt (blk_lt hrep)⟩,⟨Ye hbb _⟩⟩
  ·go_wp2_with fail
   go_meet;have hbb:=Yk (below_drew (Ye (Ye (Yo w5.heap.size w5) _) _)) hbr;have hsz:=hbr.size;have e1:((w5.alloc (.cells #[.int .i64 (-1)] 3)).alloc (.cells (stz n0).toArray 38)).drew.heap.size=w5.heap.size+2:=by simp
   rw[e1] at hrep hsz;have hst:IsS w6 (w5.heap.size+1) (List.replicate n0 z38):=by
    refine IsS.below (w:=((w5.alloc (.cells #[.int .i64 (-1)] 3)).alloc (.cells (stz n0).toArray 38)).drew) ?_ hbr;have h_:=heap_alloc_new (w5.alloc (.cells #[.int .i64 (-1)] 3)) (.cells (stz n0).toArray 38);have e2:(w5.alloc (.cells #[.int .i64 (-1)] 3)).heap.size=w5.heap.size+1:=by simp
    rw[e2] at h_;exact h_
   exact⟨w5.heap.size+2,w5.heap.size+1,rfl,rfl,⟨hrep⟩,⟨hst⟩,⟨by omega,by omega,by omega⟩,⟨hbb⟩⟩
  ·go_wp2_with fail
   go_meet;have hbb:=Yk (below_drew (Ye (Ye (Yo w5.heap.size w5) _) _)) hbr;have hsz:=hbr.size;have e1:((w5.alloc (.cells (stz n0).toArray 38)).alloc (.cells #[.int .i64 (-1)] 3)).drew.heap.size=w5.heap.size+2:=by simp
   rw[e1] at hrep hsz;have hst:IsS w6 w5.heap.size (List.replicate n0 z38):=by
    refine IsS.below (w:=((w5.alloc (.cells (stz n0).toArray 38)).alloc (.cells #[.int .i64 (-1)] 3)).drew) ?_ hbr;exact IsS.below (w:=w5.alloc (.cells (stz n0).toArray 38)) (heap_alloc_new w5 _) (below_drew (Ye (Yo _ _) _))
   exact⟨w5.heap.size+2,w5.heap.size,rfl,rfl,⟨hrep⟩,⟨hst⟩,⟨by omega,by omega,by omega⟩,⟨hbb⟩⟩
 case rest=>
  obtain⟨gd,gb,rfl,rfl,HD,HS,HG,HBC⟩:=hcut;have m0_:=Ya (Yk HB.out HBC.out);have m1_:=Ya (Yn B3.out HBC.out);clear hmk hc0;have GD:Aside0 (g3≠gd∧g3≠gb∧gd≠gb∧w.heap.size≤gd∧w.heap.size≤gb):=⟨by have h1:=blk_lt B3.out;have h2:=HG.out;have h3:=HB.out.size;omega⟩;clear HB B3 HG HBC;have HB:=m0_;have B3:=m1_;clear m0_ m1_;have hd0:wc.cell? ⟨gd,s,none⟩=some (.int .i64 ((List.replicate n0 (-1:Int)).getD s 0)):=HD.out.cell (by simpa using hs);have hf0:=HD.out.free s;have ps:(0:Int)≤(s:Int):=by omega
  have qs:(s:Int)<(n0:Int):=by omega
  have hc0:wc.cell? ⟨g3,0,none⟩=some (.int .i64 n0):=(Yc B3.out 0).trans rfl;have hn3:g3≠gd:=GD.out.1;go_wp2_with fail;have m0_:Aside0 (IsI (wc.setCell ⟨gd,s,none⟩ (.int .i64 0)) gd (dOf n0 [⟨s,z38,0⟩])):=⟨by rw[dOf_one];exact HD.out.put s 0⟩;have m1_:Aside0 (IsS (wc.setCell ⟨gd,s,none⟩ (.int .i64 0)) gb (bOf z38 n0 [⟨s,z38,0⟩])):=⟨by rw[bOf_one];exact HS.out.far (by have:=GD.out;show gb≠gd;omega) _⟩;have m2_:Aside0 ((wc.setCell ⟨gd,s,none⟩ (.int .i64 0)).heap[g3]? =some (.cells #[.int .i64 n0, .bool Zb, .slice A2 l.length c2, .slice A3 F.length c3, .slice (some ad4) n0 c4] 118 (0,0))):=⟨blk_far B3.out (p:=⟨gd,s,none⟩) hn3 _⟩;have m3_:=Ya (Yh (j:=s) (v:= .int .i64 0) HB.out GD.out.2.2.2.1);clear HD HS B3 HB hd0 hf0 hc0 hn3;have HD:=m0_;have HS:=m1_;have B3:=m2_;have HB:=m3_;clear m0_ m1_ m2_ m3_;generalize wc.setCell ⟨gd,s,none⟩ (.int .i64 0)=w8 at *;go_wp2_with (first|(go_at_call 164;refine(que_new n0 _ hn50).mono ?_;rintro e_ w9 ⟨gq,rfl,hge,hq,hbq⟩;have m0_:=Ya (HD.out.below hbq);have m1_:=Ya (HS.out.below hbq);have m2_:=Ya (Yn B3.out hbq);have m3_:=Ya (Yk HB.out hbq);have GQ:Aside0 (w.heap.size≤gq∧gq≠gd∧gq≠gb∧gq≠g3):=⟨by have h1:=HD.out.lt;have h2:=HS.out.lt;have h3:=blk_lt B3.out;have h4:=HB.out.size;omega⟩;have HQ:=Ya hq;clear HD HS B3 HB hq hbq hge;have HD:=m0_;have HS:=m1_;have B3:=m2_;have HB:=m3_;clear m0_ m1_ m2_ m3_)|(go_at_call 165;refine(que_put_grow gq none [] 0 n0 (s:Int) _ HQ.out hn0).mono ?_;rintro e_ w10 ⟨rfl,bq,R1,hbq,hq,hql,hk⟩;have HM:Aside0 (Sm n0 Zb A2 c2 l A3 c3 F (some ad4) c4 g3 gd gb gq w [⟨s,z38,0⟩] 0 w10):=⟨⟨HD.out.kept hk (Ne.symm GQ.out.2.1),HS.out.kept hk (Ne.symm GQ.out.2.2.1),hk.blk B3.out (Ne.symm GQ.out.2.2.2),⟨_,R1,0,hq,hql,fun k hk2=>(by rcases hk2 with rfl|⟨a,ha,rfl⟩;exact GQ.out;cases ha;have h1:=HD.out.lt;have h2:=HS.out.lt;have h3:=blk_lt B3.out;have h4:=HB.out.size;show w.heap.size≤bq∧bq≠gd∧bq≠gb∧bq≠g3;omega)⟩,hk.toBelow HB.out HB.out.size (fun b hb=>by have:=GQ.out;omega)⟩⟩;clear HD HS B3 HB HQ hq hql hk hbq)|fail);go_step3;go_wp2_with fail;go_loopw [10] (fun v10 w'=> ∃ m,SR n0 Zb A2 c2 l A3 c3 F (some ad4) c4 g3 gd gb gq s t w w' m) (fun _ w'=>least (SR n0 Zb A2 c2 l A3 c3 F (some ad4) c4 g3 gd gb gq s t w w'))
  case atStart=>exact⟨_,_,_,rfl,lp_start hs HTS.out,HM.out⟩
  case round=>
   clear HM;have hsp:=least_spec hrel;obtain⟨M,hM⟩: ∃ M_,M_=least (SR n0 Zb A2 c2 l A3 c3 F (some ad4) c4 g3 gd gb gq s t w wr):=⟨_,rfl⟩;rw[← hM] at hsp;have HLE:=Ya hM;clear hM hrel;obtain⟨st,i,hmi,hlp,hsm⟩:=hsp;have HMI:=Ya hmi;have HLP:=Ya hlp;have HSM:=Ya hsm;clear hmi hlp hsm;have hstn:=HLP.out.len HR.out hs;have hile:=HLP.out.ile;obtain⟨A,R,fr,hq,hql,hsep⟩:=HSM.out.que;by_cases hlt:i<st.length
   ·obtain⟨x,hx⟩: ∃ x,st[i]? =some x:=⟨_,List.getElem?_eq_getElem hlt⟩
    obtain⟨k,hk⟩: ∃ k,st.length - i=k+1:=⟨st.length - i - 1,by omega⟩;rw[hk] at hq hql;have hk2:st.length - (i+1)=k:=by omega
    obtain⟨bq,eA⟩: ∃ b,A=some ⟨b,0,none⟩:=by
     rcases hq.ring with ⟨_,h1⟩|⟨b,h1,_⟩
     ·have:=hq.szr;rw[h1] at this;simp at this
     ·exact⟨b,h1⟩
    subst eA;have hfr:fr<R.length:=by
     rcases hq.frr with h1|⟨_,h1⟩
     ·exact h1
     ·have:=hq.szr;rw[h1] at this;simp at this
    rw[qL_take R fr k hfr,qOf_cons hx] at hql;injection hql with hv hql
    have hxn:x.v<n0:=fds_lt HLP.out.upto.fds (esP_to HR.out) hs _ (List.mem_map_of_mem (List.mem_of_getElem? hx));have HTK:=Ya (by have h_:=que_take gq bq R fr k n0 wr hq;rw[hv] at h_;exact h_);have HQL:=Ya hql;have HSEP:=Ya hsep;have HX:=Ya hx;have HQ:=Ya hq;have HK2:=Ya hk2;obtain⟨ad,cv0,had,_,hKv,hcell⟩:=Kd.C_get H4.out [] (x.v:Int) (by omega) (by omega);cases had;have hrow:(rowsAt l n0 n0).getD (x.v:Int).toNat []=stL l x.v l.length:=by rw[Int.toNat_natCast,List.getD_eq_getElem?_getD,rowsAt_get l n0 n0 _ hxn,Yx hxn];rfl
    rw[hrow] at hKv;obtain⟨Av,cv,rfl,hlv,hCv⟩:=hKv;have hrw:=hcell 0 _ rfl;have e0:(x.v:Int).toNat * (Kd.slice 38 k38).sz+0=x.v:=by rw[Int.toNat_natCast];show x.v * 1+0=x.v;omega
    rw[e0] at hrw;have HCV:=Ya hCv;have HRC:=Ya hrw;have px:(0:Int)≤(x.v:Int):=by omega
    have qx:(x.v:Int)<(n0:Int):=by omega
    obtain⟨v,hvx⟩: ∃ v_,v_=x.v:=⟨_,rfl⟩;have hlen4:(stL l x.v l.length).length≤400:=by have:=stL_len l x.v l.length;have:=HR.out.arcs;omega
    clear hq hql hsep hx hv hk hk2 hcell hrow hlv hCv hrw e0;have e1:decide ((0:Int)<(k:Int)+1)=true:=Yv (by omega);go_wp2_with (first|(go_at_call 166;refine(que_len gq _ R fr (k+1) n0 _ HQ.out).mono ?_;rintro e_ w_ ⟨rfl,hw_⟩;subst hw_)|(go_at_call 167;refine HTK.out.mono ?_;rintro e_ w11 ⟨rfl,hq2,hk11⟩;have HM:Aside0 (Sm n0 Zb A2 c2 l A3 c3 F (some ad4) c4 g3 gd gb gq w st (i+1) w11):=⟨⟨HSM.out.D.kept hk11 (fun e=>(HSEP.out gq (.inl rfl)).2.1 e.symm),HSM.out.B.kept hk11 (fun e=>(HSEP.out gq (.inl rfl)).2.2.1 e.symm),hk11.blk HSM.out.b3 (fun e=>(HSEP.out gq (.inl rfl)).2.2.2 e.symm),⟨_,R,_,by rw[HK2.out];exact hq2,by rw[HK2.out];exact HQL.out,HSEP.out⟩,hk11.toBelow HSM.out.below HSM.out.below.size (fun b hb=>by have:=HSEP.out gq (.inl rfl);omega)⟩⟩;clear hq2 hk11;have hc4:w11.cell? ⟨g3,4,none⟩=some (.slice (some ad4) n0 c4):=(Yc HM.out.b3 4).trans rfl;have hcr:=pw_cell_below HM.out.below HRC.out)|fail);clear hc4 hcr HRC;obtain⟨LN,hLN⟩: ∃ n_,n_=(stL l x.v l.length).length:=⟨_,rfl⟩;rw[← hLN] at hlen4 ⊢;have HLN:=Ya hLN;clear hLN;obtain⟨w2,hw2⟩: ∃ x_:World,x_=w11:=⟨_,rfl⟩;subst hw2;go_loopw [54] (fun v54 w'=> ∃ (j:Nat) (stj:List (Fd S38)),j≤LN∧v54= .int .i64 j∧Aside0 (Li l F n0 s t x (proc (toP l) (esP l F) st x) stj i j)∧Aside0 (Sm n0 Zb A2 c2 l A3 c3 F (some ad4) c4 g3 gd gb gq w stj (i+1) w')) (fun v54 _=>LN - (intOf v54).toNat)
    case atStart=>exact⟨0,st,Nat.zero_le _,rfl,⟨HLP.out.inner HX.out⟩,HM⟩
    case round=>
     clear HM;obtain⟨j,stj,hj,rfl,HLI,HSJ⟩:=hrel;by_cases hltj:j<LN
     ·have c55:decide ((j:Int)<(LN:Int))=true:=Yv (by omega)
      have pj:(0:Int)≤(j:Int):=by omega
      have qj:(j:Int)<(LN:Int):=by omega
      obtain⟨adj,eadj,hs0,hs1⟩:=at_T38 (Yt HCV.out HSJ.out.below) (j:Int) pj (by rw[← HLN.out];exact qj);cases eadj;simp only[Int.toNat_natCast] at hs0 hs1;obtain⟨e,hee⟩: ∃ e_,e_=rd_T38 (stL l x.v l.length) (j:Int):=⟨_,rfl⟩;rw[← hee] at hs0 hs1;have hej:(stL l x.v l.length)[j]? =some e:=by
       rw[hee];unfold rd_T38;rw[Int.toNat_natCast,List.getD_eq_getElem?_getD,List.getElem?_eq_getElem (by rw[← HLN.out];exact hltj)];rfl
      have hso:StepOf l e:=stL_of (List.mem_of_getElem? hej);have HEJ:=Ya hej;have HSO:=Ya hso;clear hee hej hso;obtain⟨u,hu⟩: ∃ u_:Nat,stTo l e=(u_:Int):=⟨(stTo l e).toNat,by have:=stTo_in HR.out HSO.out;omega⟩;obtain⟨rm,hrm⟩: ∃ d_,d_=stRoom l F e:=⟨_,rfl⟩;obtain⟨y,hy⟩: ∃ y_,y_=(dOf n0 stj).getD u 0:=⟨_,rfl⟩;have hun:u<n0:=by have:=stTo_in HR.out HSO.out;omega
      have hup:toP l e=u:=by unfold toP;rw[hu,Int.toNat_natCast]
      have HTO:=Ya (to_f HR.out HSO.out (n0:Int) Zb);have HRM:=Ya (room_f HR.out HSO.out (n0:Int) Zb);rw[hu] at HTO;rw[← hrm] at HRM;have hrm0:0≤rm:=by rw[hrm];exact(stRoom_in HR.out HSO.out).1
      have HY:=Ya hy;have HUP:=Ya hup;have HRMV:=Ya hrm;have hneg:=dOf_neg stj 0 hun;rw[← hy] at hneg;clear hu hrm hy hup;have pu:(0:Int)≤(u:Int):=by omega
      have qu:(u:Int)<(n0:Int):=by omega
      by_cases hmem:u∈nodes stj
      ·have hy0: ¬ y<0:=fun h=>hneg.1 h hmem
       have ey:decide (0≤y)=true:=Yv (by omega);have HNX:Aside0 (Li l F n0 s t x (proc (toP l) (esP l F) st x) stj i (j+1)):=⟨HLI.out.skip HEJ.out (.inr (by rw[HUP.out];exact hmem))⟩;clear hneg hmem hy0;go_wp2_with (first|((with_reducible refine gate_dst (N:=13) rfl ?_);refine Yz ?hg (N:=13) ?hd (cs:= #[.int .i64 0, .bool false]) (t:=38) ?hr ?_;(case hd=>rfl);(case hg=>rfl);(case hr=>first|(go_simp;done)|(go_simp;rfl));intro g8 hg w6 Zf hb;have GE8:Aside0 (wr.heap.size≤g8):=⟨Nat.le_of_eq hg.symm⟩;have B8:=Ya Zf;have HBL:=Ya hb;clear Zf hg hb;have hcz0:w6.cell? ⟨g8,0,none⟩=some (.int .i64 0):=(Yc B8.out 0).trans rfl;have hcz1:w6.cell? ⟨g8,1,none⟩=some (.bool false):=(Yc B8.out 1).trans rfl;have hfz0:=Yf B8.out 0;have hfz1:=Yf B8.out 1)|((with_reducible refine gate_store (t:=38) (p:=13) rfl ?_);refine store_event (t:=38) (p:=13) (v:= ?vo) (w1:=((w6.setCell ⟨g8,0,none⟩ (.int .i64 e.f0)).setCell ⟨g8,1,none⟩ (.bool e.f1))) ?hg ?ho ?hn ?hr ?_;(case ho=>rfl);(case hg=>rfl);(case hn=>rfl);(case hr=>first|(go_simp;done)|(go_simp;rfl));intro w8 hw;have m0_:Aside0 (w8.heap[g8]? =some (.cells #[.int .i64 e.f0, .bool e.f1] 38 (0,0))):=⟨by rw[hw];refine YA (cs:= #[.int .i64 e.f0, .bool false]) ?_ 1 _ rfl;refine YA (cs:= #[.int .i64 0, .bool false]) ?_ 0 _ rfl;exact B8.out⟩;have m1_:Aside0 (Below wr.heap.size wr w8):=⟨by rw[hw];exact Yh (Yh HBL.out GE8.out) GE8.out⟩;clear hw B8 HBL hcz0 hcz1 hfz0 hfz1 hs0 hs1;have B8:=m0_;clear m0_;have m0_:=Ya (HSJ.out.step m1_.out);have HG8:Aside0 (g8≠gd∧g8≠gb∧g8≠g3):=⟨by have h1:=HSJ.out.D.lt;have h2:=HSJ.out.B.lt;have h3:=blk_lt HSJ.out.b3;have h4:=GE8.out;omega⟩;clear HSJ m1_;have HSJ:=m0_;clear m0_;have c0:w8.cell? ⟨g3,0,none⟩=some (.int .i64 n0):=(Yc HSJ.out.b3 0).trans rfl;have c1:w8.cell? ⟨g3,1,none⟩=some (.bool Zb):=(Yc HSJ.out.b3 1).trans rfl;have c2_:w8.cell? ⟨g3,2,none⟩=some (.slice A2 l.length c2):=(Yc HSJ.out.b3 2).trans rfl;have c3_:w8.cell? ⟨g3,3,none⟩=some (.slice A3 F.length c3):=(Yc HSJ.out.b3 3).trans rfl;have s0:w8.cell? ⟨g8,0,none⟩=some (.int .i64 e.f0):=(Yc B8.out 0).trans rfl;have s1:w8.cell? ⟨g8,1,none⟩=some (.bool e.f1):=(Yc B8.out 1).trans rfl;have hcu:w8.cell? ⟨gd,u,none⟩=some (.int .i64 y):=(by rw[HY.out];exact HSJ.out.D.cell (by rw[dOf_len];exact hun)))|(go_at_call 105;refine(static_Flowing_To.calls (n0:Int) Zb A2 c2 l A3 c3 F e.f0 e.f1 (u:Int) _ (Yt H2.out HSJ.out.below) HC2.out (Yt H3.out HSJ.out.below) HC3.out HTO.out).mono ?_;rintro e_ w9 ⟨rfl,hb9⟩;have m0_:=Ya (HSJ.out.step hb9);have m1_:=Ya (Yn B8.out hb9);clear HSJ B8 hb9 c0 c1 c2_ c3_ s0 s1 hcu;have HSJ:=m0_;have B8:=m1_;clear m0_ m1_;have c0:w9.cell? ⟨g3,0,none⟩=some (.int .i64 n0):=(Yc HSJ.out.b3 0).trans rfl;have c1:w9.cell? ⟨g3,1,none⟩=some (.bool Zb):=(Yc HSJ.out.b3 1).trans rfl;have c2_:w9.cell? ⟨g3,2,none⟩=some (.slice A2 l.length c2):=(Yc HSJ.out.b3 2).trans rfl;have c3_:w9.cell? ⟨g3,3,none⟩=some (.slice A3 F.length c3):=(Yc HSJ.out.b3 3).trans rfl;have s0:w9.cell? ⟨g8,0,none⟩=some (.int .i64 e.f0):=(Yc B8.out 0).trans rfl;have s1:w9.cell? ⟨g8,1,none⟩=some (.bool e.f1):=(Yc B8.out 1).trans rfl;have hcu:w9.cell? ⟨gd,u,none⟩=some (.int .i64 y):=(by rw[HY.out];exact HSJ.out.D.cell (by rw[dOf_len];exact hun)))|fail);go_roundw
       case rel=>exact⟨j+1,stj,by omega,by go_num,HNX,HSJ⟩
       case measure=>simp[intOf]<;>omega
      ·have hy0:y<0:=hneg.2 hmem
       have ey:decide (0≤y)=false:=Yw (by omega);have HMEM:Aside0 (toP l e ∉ nodes stj):=⟨by rw[HUP.out];exact hmem⟩;clear hneg hmem hy0;by_cases hr0:rm=0
       ·have er:(rm == 0)=true:=beq_iff_eq.2 hr0
        have HNX:Aside0 (Li l F n0 s t x (proc (toP l) (esP l F) st x) stj i (j+1)):=⟨HLI.out.skip HEJ.out (.inl (by rw[← HRMV.out];omega))⟩;clear hr0;go_wp2_with (first|((with_reducible refine gate_dst (N:=13) rfl ?_);refine Yz ?hg (N:=13) ?hd (cs:= #[.int .i64 0, .bool false]) (t:=38) ?hr ?_;(case hd=>rfl);(case hg=>rfl);(case hr=>first|(go_simp;done)|(go_simp;rfl));intro g8 hg w6 Zf hb;have GE8:Aside0 (wr.heap.size≤g8):=⟨Nat.le_of_eq hg.symm⟩;have B8:=Ya Zf;have HBL:=Ya hb;clear Zf hg hb;have hcz0:w6.cell? ⟨g8,0,none⟩=some (.int .i64 0):=(Yc B8.out 0).trans rfl;have hcz1:w6.cell? ⟨g8,1,none⟩=some (.bool false):=(Yc B8.out 1).trans rfl;have hfz0:=Yf B8.out 0;have hfz1:=Yf B8.out 1)|((with_reducible refine gate_store (t:=38) (p:=13) rfl ?_);refine store_event (t:=38) (p:=13) (v:= ?vo) (w1:=((w6.setCell ⟨g8,0,none⟩ (.int .i64 e.f0)).setCell ⟨g8,1,none⟩ (.bool e.f1))) ?hg ?ho ?hn ?hr ?_;(case ho=>rfl);(case hg=>rfl);(case hn=>rfl);(case hr=>first|(go_simp;done)|(go_simp;rfl));intro w8 hw;have m0_:Aside0 (w8.heap[g8]? =some (.cells #[.int .i64 e.f0, .bool e.f1] 38 (0,0))):=⟨by rw[hw];refine YA (cs:= #[.int .i64 e.f0, .bool false]) ?_ 1 _ rfl;refine YA (cs:= #[.int .i64 0, .bool false]) ?_ 0 _ rfl;exact B8.out⟩;have m1_:Aside0 (Below wr.heap.size wr w8):=⟨by rw[hw];exact Yh (Yh HBL.out GE8.out) GE8.out⟩;clear hw B8 HBL hcz0 hcz1 hfz0 hfz1 hs0 hs1;have B8:=m0_;clear m0_;have m0_:=Ya (HSJ.out.step m1_.out);have HG8:Aside0 (g8≠gd∧g8≠gb∧g8≠g3):=⟨by have h1:=HSJ.out.D.lt;have h2:=HSJ.out.B.lt;have h3:=blk_lt HSJ.out.b3;have h4:=GE8.out;omega⟩;clear HSJ m1_;have HSJ:=m0_;clear m0_;have c0:w8.cell? ⟨g3,0,none⟩=some (.int .i64 n0):=(Yc HSJ.out.b3 0).trans rfl;have c1:w8.cell? ⟨g3,1,none⟩=some (.bool Zb):=(Yc HSJ.out.b3 1).trans rfl;have c2_:w8.cell? ⟨g3,2,none⟩=some (.slice A2 l.length c2):=(Yc HSJ.out.b3 2).trans rfl;have c3_:w8.cell? ⟨g3,3,none⟩=some (.slice A3 F.length c3):=(Yc HSJ.out.b3 3).trans rfl;have s0:w8.cell? ⟨g8,0,none⟩=some (.int .i64 e.f0):=(Yc B8.out 0).trans rfl;have s1:w8.cell? ⟨g8,1,none⟩=some (.bool e.f1):=(Yc B8.out 1).trans rfl;have hcu:w8.cell? ⟨gd,u,none⟩=some (.int .i64 y):=(by rw[HY.out];exact HSJ.out.D.cell (by rw[dOf_len];exact hun)))|(go_at_call 105;refine(static_Flowing_To.calls (n0:Int) Zb A2 c2 l A3 c3 F e.f0 e.f1 (u:Int) _ (Yt H2.out HSJ.out.below) HC2.out (Yt H3.out HSJ.out.below) HC3.out HTO.out).mono ?_;rintro e_ w9 ⟨rfl,hb9⟩;have m0_:=Ya (HSJ.out.step hb9);have m1_:=Ya (Yn B8.out hb9);clear HSJ B8 hb9 c0 c1 c2_ c3_ s0 s1 hcu;have HSJ:=m0_;have B8:=m1_;clear m0_ m1_;have c0:w9.cell? ⟨g3,0,none⟩=some (.int .i64 n0):=(Yc HSJ.out.b3 0).trans rfl;have c1:w9.cell? ⟨g3,1,none⟩=some (.bool Zb):=(Yc HSJ.out.b3 1).trans rfl;have c2_:w9.cell? ⟨g3,2,none⟩=some (.slice A2 l.length c2):=(Yc HSJ.out.b3 2).trans rfl;have c3_:w9.cell? ⟨g3,3,none⟩=some (.slice A3 F.length c3):=(Yc HSJ.out.b3 3).trans rfl;have s0:w9.cell? ⟨g8,0,none⟩=some (.int .i64 e.f0):=(Yc B8.out 0).trans rfl;have s1:w9.cell? ⟨g8,1,none⟩=some (.bool e.f1):=(Yc B8.out 1).trans rfl;have hcu:w9.cell? ⟨gd,u,none⟩=some (.int .i64 y):=(by rw[HY.out];exact HSJ.out.D.cell (by rw[dOf_len];exact hun)))|(go_at_call 104;refine(static_Flowing_Room.calls (n0:Int) Zb A2 c2 l A3 c3 F e.f0 e.f1 rm _ (Yt H2.out HSJ.out.below) HC2.out (Yt H3.out HSJ.out.below) HC3.out HRM.out).mono ?_;rintro e_ w10 ⟨rfl,hb9⟩;have m0_:=Ya (HSJ.out.step hb9);have m1_:=Ya (Yn B8.out hb9);clear HSJ B8 hb9 c0 c1 c2_ c3_ s0 s1 hcu;have HSJ:=m0_;have B8:=m1_;clear m0_ m1_;have c0:w10.cell? ⟨g3,0,none⟩=some (.int .i64 n0):=(Yc HSJ.out.b3 0).trans rfl;have c1:w10.cell? ⟨g3,1,none⟩=some (.bool Zb):=(Yc HSJ.out.b3 1).trans rfl;have c2_:w10.cell? ⟨g3,2,none⟩=some (.slice A2 l.length c2):=(Yc HSJ.out.b3 2).trans rfl;have c3_:w10.cell? ⟨g3,3,none⟩=some (.slice A3 F.length c3):=(Yc HSJ.out.b3 3).trans rfl;have s0:w10.cell? ⟨g8,0,none⟩=some (.int .i64 e.f0):=(Yc B8.out 0).trans rfl;have s1:w10.cell? ⟨g8,1,none⟩=some (.bool e.f1):=(Yc B8.out 1).trans rfl;have hcu:w10.cell? ⟨gd,u,none⟩=some (.int .i64 y):=(by rw[HY.out];exact HSJ.out.D.cell (by rw[dOf_len];exact hun)))|fail);go_roundw
        case rel=>exact⟨j+1,stj,by omega,by go_num,HNX,HSJ⟩
        case measure=>simp[intOf]<;>omega
       ·have er:(rm == 0)=false:=beq_eq_false_iff_ne.2 hr0
        have HRP:Aside0 (0<stRoom l F e):=⟨by rw[← HRMV.out];omega⟩;clear hr0;go_wp2_with (first|((with_reducible refine gate_dst (N:=13) rfl ?_);refine Yz ?hg (N:=13) ?hd (cs:= #[.int .i64 0, .bool false]) (t:=38) ?hr ?_;(case hd=>rfl);(case hg=>rfl);(case hr=>first|(go_simp;done)|(go_simp;rfl));intro g8 hg w6 Zf hb;have GE8:Aside0 (wr.heap.size≤g8):=⟨Nat.le_of_eq hg.symm⟩;have B8:=Ya Zf;have HBL:=Ya hb;clear Zf hg hb;have hcz0:w6.cell? ⟨g8,0,none⟩=some (.int .i64 0):=(Yc B8.out 0).trans rfl;have hcz1:w6.cell? ⟨g8,1,none⟩=some (.bool false):=(Yc B8.out 1).trans rfl;have hfz0:=Yf B8.out 0;have hfz1:=Yf B8.out 1)|((with_reducible refine gate_store (t:=38) (p:=13) rfl ?_);refine store_event (t:=38) (p:=13) (v:= ?vo) (w1:=((w6.setCell ⟨g8,0,none⟩ (.int .i64 e.f0)).setCell ⟨g8,1,none⟩ (.bool e.f1))) ?hg ?ho ?hn ?hr ?_;(case ho=>rfl);(case hg=>rfl);(case hn=>rfl);(case hr=>first|(go_simp;done)|(go_simp;rfl));intro w8 hw;have m0_:Aside0 (w8.heap[g8]? =some (.cells #[.int .i64 e.f0, .bool e.f1] 38 (0,0))):=⟨by rw[hw];refine YA (cs:= #[.int .i64 e.f0, .bool false]) ?_ 1 _ rfl;refine YA (cs:= #[.int .i64 0, .bool false]) ?_ 0 _ rfl;exact B8.out⟩;have m1_:Aside0 (Below wr.heap.size wr w8):=⟨by rw[hw];exact Yh (Yh HBL.out GE8.out) GE8.out⟩;clear hw B8 HBL hcz0 hcz1 hfz0 hfz1 hs0 hs1;have B8:=m0_;clear m0_;have m0_:=Ya (HSJ.out.step m1_.out);have HG8:Aside0 (g8≠gd∧g8≠gb∧g8≠g3):=⟨by have h1:=HSJ.out.D.lt;have h2:=HSJ.out.B.lt;have h3:=blk_lt HSJ.out.b3;have h4:=GE8.out;omega⟩;clear HSJ m1_;have HSJ:=m0_;clear m0_;have c0:w8.cell? ⟨g3,0,none⟩=some (.int .i64 n0):=(Yc HSJ.out.b3 0).trans rfl;have c1:w8.cell? ⟨g3,1,none⟩=some (.bool Zb):=(Yc HSJ.out.b3 1).trans rfl;have c2_:w8.cell? ⟨g3,2,none⟩=some (.slice A2 l.length c2):=(Yc HSJ.out.b3 2).trans rfl;have c3_:w8.cell? ⟨g3,3,none⟩=some (.slice A3 F.length c3):=(Yc HSJ.out.b3 3).trans rfl;have s0:w8.cell? ⟨g8,0,none⟩=some (.int .i64 e.f0):=(Yc B8.out 0).trans rfl;have s1:w8.cell? ⟨g8,1,none⟩=some (.bool e.f1):=(Yc B8.out 1).trans rfl;have hcu:w8.cell? ⟨gd,u,none⟩=some (.int .i64 y):=(by rw[HY.out];exact HSJ.out.D.cell (by rw[dOf_len];exact hun)))|(go_at_call 105;refine(static_Flowing_To.calls (n0:Int) Zb A2 c2 l A3 c3 F e.f0 e.f1 (u:Int) _ (Yt H2.out HSJ.out.below) HC2.out (Yt H3.out HSJ.out.below) HC3.out HTO.out).mono ?_;rintro e_ w9 ⟨rfl,hb9⟩;have m0_:=Ya (HSJ.out.step hb9);have m1_:=Ya (Yn B8.out hb9);clear HSJ B8 hb9 c0 c1 c2_ c3_ s0 s1 hcu;have HSJ:=m0_;have B8:=m1_;clear m0_ m1_;have c0:w9.cell? ⟨g3,0,none⟩=some (.int .i64 n0):=(Yc HSJ.out.b3 0).trans rfl;have c1:w9.cell? ⟨g3,1,none⟩=some (.bool Zb):=(Yc HSJ.out.b3 1).trans rfl;have c2_:w9.cell? ⟨g3,2,none⟩=some (.slice A2 l.length c2):=(Yc HSJ.out.b3 2).trans rfl;have c3_:w9.cell? ⟨g3,3,none⟩=some (.slice A3 F.length c3):=(Yc HSJ.out.b3 3).trans rfl;have s0:w9.cell? ⟨g8,0,none⟩=some (.int .i64 e.f0):=(Yc B8.out 0).trans rfl;have s1:w9.cell? ⟨g8,1,none⟩=some (.bool e.f1):=(Yc B8.out 1).trans rfl;have hcu:w9.cell? ⟨gd,u,none⟩=some (.int .i64 y):=(by rw[HY.out];exact HSJ.out.D.cell (by rw[dOf_len];exact hun)))|(go_at_call 104;refine(static_Flowing_Room.calls (n0:Int) Zb A2 c2 l A3 c3 F e.f0 e.f1 rm _ (Yt H2.out HSJ.out.below) HC2.out (Yt H3.out HSJ.out.below) HC3.out HRM.out).mono ?_;rintro e_ w10 ⟨rfl,hb9⟩;have m0_:=Ya (HSJ.out.step hb9);have m1_:=Ya (Yn B8.out hb9);clear HSJ B8 hb9 c0 c1 c2_ c3_ s0 s1 hcu;have HSJ:=m0_;have B8:=m1_;clear m0_ m1_;have c0:w10.cell? ⟨g3,0,none⟩=some (.int .i64 n0):=(Yc HSJ.out.b3 0).trans rfl;have c1:w10.cell? ⟨g3,1,none⟩=some (.bool Zb):=(Yc HSJ.out.b3 1).trans rfl;have c2_:w10.cell? ⟨g3,2,none⟩=some (.slice A2 l.length c2):=(Yc HSJ.out.b3 2).trans rfl;have c3_:w10.cell? ⟨g3,3,none⟩=some (.slice A3 F.length c3):=(Yc HSJ.out.b3 3).trans rfl;have s0:w10.cell? ⟨g8,0,none⟩=some (.int .i64 e.f0):=(Yc B8.out 0).trans rfl;have s1:w10.cell? ⟨g8,1,none⟩=some (.bool e.f1):=(Yc B8.out 1).trans rfl;have hcu:w10.cell? ⟨gd,u,none⟩=some (.int .i64 y):=(by rw[HY.out];exact HSJ.out.D.cell (by rw[dOf_len];exact hun)))|fail);obtain⟨lv,hlv⟩: ∃ n_,n_=x.lv:=⟨_,rfl⟩;have hxm:x∈stj:=List.mem_of_getElem? HLI.out.at_;have hlv50:x.lv<50:=by have:=lv_lt HLI.out.fds hxm;have:=fds_len HLI.out.fds (esP_to HR.out) hs;omega
        have hcv:w10.cell? ⟨gd,x.v,none⟩=some (.int .i64 (lv:Int)):=by
         rw[hlv, ← dOf_mem HLI.out.fds.nodup hxm 0 hxn];exact HSJ.out.D.cell (by rw[dOf_len];exact hxn)
        rw[← hlv] at hlv50;have HLV:=Ya hlv;clear hlv hxm c0 c1 c2_ c3_;obtain⟨hb0,hb1⟩:=HSJ.out.B.cell z38 (j:=u) (by rw[bOf_len];exact hun);generalize ((bOf z38 n0 stj).getD u z38)=zz at hb0 hb1;have fd:=HSJ.out.D.free u;have fb0:=HSJ.out.B.free (u * 2);have fb1:=HSJ.out.B.free (u * 2+1);obtain⟨n1,n2,n3⟩:=HG8.out;obtain⟨n4,n5,n6,n7,n8⟩:=GD.out;have pl0:(0:Int)≤(lv:Int):=by omega
        have pl1:(lv:Int)<50:=by omega
        go_region;have m0_:Aside0 (IsI (seekW w10 gd gb u ((lv:Int)+1) e) gd (dOf n0 (stj ++ [⟨toP l e,e,x.lv+1⟩]))):=⟨by
         rw[dOf_snoc n0 HMEM.out,HUP.out, ← HLV.out];exact seek_D HSJ.out.D n6 u _ e⟩
        have m1_:Aside0 (IsS (seekW w10 gd gb u ((lv:Int)+1) e) gb (bOf z38 n0 (stj ++ [⟨toP l e,e,x.lv+1⟩]))):=⟨by
         rw[bOf_snoc z38 n0 HMEM.out,HUP.out];exact seek_B HSJ.out.B n6 u _ e⟩
        have m2_:Aside0 ((seekW w10 gd gb u ((lv:Int)+1) e).heap[g3]? =some (.cells #[.int .i64 n0, .bool Zb, .slice A2 l.length c2, .slice A3 F.length c3, .slice (some ad4) n0 c4] 118 (0,0))):=⟨(seek_far w10 u _ e n4 n5).trans HSJ.out.b3⟩;have m3_:Aside0 (Below w.heap.size w (seekW w10 gd gb u ((lv:Int)+1) e)):=⟨below_drew (Yh (Yh (Yh HSJ.out.below n7) n8) n8)⟩;obtain⟨Aj,Rj,frj,hqj,hqlj,hsj⟩:=HSJ.out.que;have hqj2:=hqj.step (w1:=seekW w10 gd gb u ((lv:Int)+1) e) (fun k _ hk=>seek_far w10 u _ e (hsj k hk).2.1 (hsj k hk).2.2.1);have HQJ:=Ya hqj2;have HQLJ:=Ya hqlj;have HSEPJ:=Ya hsj;have hif:i<stj.length:=(List.getElem?_eq_some_iff.1 HLI.out.at_).1;have hadd:=HLI.out.add HEJ.out HRP.out HMEM.out;have hcount:stj.length+1≤n0:=by have:=fds_len hadd.1 (esP_to HR.out) hs;simpa using this
        clear hqj hqj2 hqlj hsj HSJ B8 hb0 hb1 fd fb0 fb1 hcv hcu s0 s1 n1 n2 n3 hadd HG8;have HD:=m0_;have HS:=m1_;have B3:=m2_;have HB:=m3_;clear m0_ m1_ m2_ m3_;generalize hw12:(((w10.setCell ⟨gd,u,none⟩ (.int .i64 ((lv:Int)+1))).setCell ⟨gb,u * 2,none⟩ (.int .i64 e.f0)).setCell ⟨gb,u * 2+1,none⟩ (.bool e.f1)).drew=w12;rw[show seekW w10 gd gb u ((lv:Int)+1) e=w12 from hw12] at HD HS B3 HB HQJ;clear hw12;by_cases htu:t=(u:Int)
        ·have et:((u:Int) == t)=true:=by rw[htu];simp
         have HSN:=Ya (HLI.out.found HLP.out HX.out (by omega) HEJ.out HRP.out HMEM.out (by rw[HUP.out];exact htu));clear htu;go_wp2_with fail;rw[Exit.noGoto_ret];go_ret2;exact⟨gd,gb,_,rfl,n7,n8,n6,HD.out,HS.out,HB.out,HSN.out⟩
        ·have et:((u:Int) == t)=false:=beq_eq_false_iff_ne.2 (Ne.symm htu)
         have HNX:=Ya (HLI.out.put HEJ.out HRP.out HMEM.out (by rw[HUP.out];exact htu));clear htu;go_wp2_with (first|(go_at_call 165;refine(que_put gq Aj Rj frj (stj.length - (i+1)) n0 (u:Int) _ HQJ.out (by omega)).mono ?_;rintro e_ w13 ⟨rfl,A',R',fr',hq',hql',hk',hs'⟩;have HM:Aside0 (Sm n0 Zb A2 c2 l A3 c3 F (some ad4) c4 g3 gd gb gq w (stj ++ [⟨toP l e,e,x.lv+1⟩]) (i+1) w13):=⟨⟨HD.out.kept hk' (fun h=>(HSEPJ.out _ h).2.1 rfl),HS.out.kept hk' (fun h=>(HSEPJ.out _ h).2.2.1 rfl),hk'.blk B3.out (fun h=>(HSEPJ.out _ h).2.2.2 rfl),⟨A',R',fr',by rw[List.length_append,List.length_singleton,show stj.length+1 - (i+1)=stj.length - (i+1)+1 by omega];exact hq',by rw[List.length_append,List.length_singleton,show stj.length+1 - (i+1)=stj.length - (i+1)+1 by omega,hql',HQLJ.out,qOf_snoc (by omega)];show _=qOf stj (i+1) ++ [((toP l e:Nat):Int)];rw[HUP.out],fun k hk=>(hs' k hk).elim (HSEPJ.out k) (fun h=>by have h1:=HB.out.size;have h2:=HD.out.lt;have h3:=HS.out.lt;have h4:=blk_lt B3.out;omega)⟩,hk'.toBelow HB.out HB.out.size (fun b hb=>(HSEPJ.out b hb).1)⟩⟩;clear HD HS B3 HB hq' hql' hk' hs')|fail);go_roundw
         case rel=>exact⟨j+1,_,by omega,by go_num,HNX,HM⟩
         case measure=>simp[intOf]<;>omega
     ·have ej:j=LN:=by omega
      subst ej;have c55:decide ((j:Int)<(j:Int))=false:=Yw (by omega);go_wp2_with fail;go_roundw
      case rel=>exact⟨_,stj,i+1,rfl,Li.next HR.out hs HLP.out HX.out (by have h_:=HLI.out;rw[HLN.out] at h_;exact h_),HSJ.out⟩
      case measure=>exact least_lt ⟨stj,i+1,rfl,Li.next HR.out hs HLP.out HX.out (by have h_:=HLI.out;rw[HLN.out] at h_;exact h_),HSJ.out⟩ (by rw[← HLE.out,HMI.out];omega)
   ·have hi:i=st.length:=by omega
    rw[show st.length - i=0 by omega] at hq;have HQ:=Ya hq;clear hq hql hsep;go_wp2_with (first|(go_at_call 166;refine(que_len gq A R fr 0 n0 _ HQ.out).mono ?_;rintro e_ w_ ⟨rfl,hw_⟩;subst hw_)|fail);rw[Exit.noGoto_ret];go_ret2;have hg:=GD.out;exact⟨gd,gb,st,rfl,hg.2.2.2.1,hg.2.2.2.2,hg.2.2.1,HSM.out.D,HSM.out.B,HSM.out.below,HLP.out.seen hi⟩
end H
namespace H
open P Q
def wayP (l:List S74) (F:List Int) (n s t:Nat):List S38:=if t∈nodes (bfP l F n s) then wayL (frP l) (bfP l F n s) s t else []
def endsErr (n:Int) (l:List S74) (s t:Int):Int:=if netErr n l=0 then(if 0≤s∧s<n∧0≤t∧t<n∧s≠t then 0 else 70) else netErr n l
def levelsRes (n:Int) (l:List S74) (F:List Int) (s:Int):List Int × Int:=
 if askErr n l F=0 then(if 0≤s∧s<n then(dOf n.toNat (bfP l F n.toNat s.toNat),0) else([],1)) else([],askErr n l F)
end H
namespace H
open P
attribute [local irreducible] wpQuiet
theorem fromS_f {l:List S74} {F:List Int} {n:Nat} (hr:Right l F n) {s:S38} (hs:StepOf l s) (a:Int) (b:Bool):static_Flowing_From.f a b l F s.f0 s.f1=some (stFrom l s):=by
 obtain⟨i,h1,h2⟩:=hs;unfold static_Flowing_From.f stFrom eFrom eTo;rw[h2];cases s.f1<;>simp[h1]
set_option maxHeartbeats 2000000 in
set_option maxRecDepth 100000 in
theorem far_calls (n0:Nat) (Zb:Bool) (A2:Option Addr) (c2:Nat) (l:List S74) (A3:Option Addr) (c3:Nat) (F:List Int) (A4:Option Addr) (c4:Nat) (s:Nat) (w:World)
  (hR:Right l F n0) (hs:s<n0) (hc2:l.length≤c2) (hc3:F.length≤c3) (h2:Kd.C k74 w A2 l.length l) (h3:Kd.C (Kd.int .i64) w A3 F.length F) (h4:(Kd.slice 38 k38).C w A4 n0 (rowsAt l n0 n0)):
  Calls Try.prog 108 #[.agg #[.int .i64 n0, .bool Zb, .slice A2 l.length c2, .slice A3 F.length c3, .slice A4 n0 c4], .int .i64 (s:Int)] w fun e w'=> ∃ gd:Nat,e= .returned (.slice (some ⟨gd,0,none⟩) n0 n0)∧w.heap.size≤gd∧IsI w' gd (dOf n0 (bfP l F n0 s))∧Below w.heap.size w w':=by
 have hu118:=Try.underlying118;have HR:=Ya hR;have HC2:=Ya hc2;have HC3:=Ya hc3;have H2:=Ya h2;have H3:=Ya h3;have H4:=Ya h4;have HB:=Ya (Yo w.heap.size w);clear hR h2 h3 h4 hc2 hc3;go_enter Try.func108,Try.ntmps108;go_wp2_with (first|((with_reducible refine gate_dst (N:=2) rfl ?_);refine Yz ?hg (N:=2) ?hd (cs:= #[.int .i64 n0, .bool Zb, .slice A2 l.length c2, .slice A3 F.length c3, .slice A4 n0 c4]) (t:=118) ?hr ?_;(case hd=>rfl);(case hg=>rfl);(case hr=>first|(go_simp;done)|(go_simp;rfl));intro g3 hg w5 Zf hb;have n0_:=Ya (Yk HB.out hb);have B3:=Ya Zf;clear HB;have HB:=n0_;have GE3:Aside0 (w.heap.size≤g3):=⟨Nat.le_of_eq hg.symm⟩;clear n0_ hb Zf hg;have c0:w5.cell? ⟨g3,0,none⟩=some (.int .i64 n0):=(Yc B3.out 0).trans rfl;have c1:w5.cell? ⟨g3,1,none⟩=some (.bool Zb):=(Yc B3.out 1).trans rfl;have c2_:w5.cell? ⟨g3,2,none⟩=some (.slice A2 l.length c2):=(Yc B3.out 2).trans rfl;have c3_:w5.cell? ⟨g3,3,none⟩=some (.slice A3 F.length c3):=(Yc B3.out 3).trans rfl;have c4_:w5.cell? ⟨g3,4,none⟩=some (.slice A4 n0 c4):=(Yc B3.out 4).trans rfl)|(go_at_call 145;refine(seek_calls n0 Zb A2 c2 l A3 c3 F A4 c4 s (-1) _ HR.out hs (by omega) HC2.out HC3.out (Yt H2.out HB.out) (Yt H3.out HB.out) (Yt H4.out HB.out)).mono ?_;rintro e_ w6 ⟨gd,gb,st,rfl,hg1,hg2,hg3,hd,hs_,hb,hsn⟩;have HD:=Ya hd;have HSN:=Ya hsn;have HG:=Ya hg1;have m0_:=Ya (Yk HB.out hb);have HS5:=HB.out.size;clear HB B3 hd hs_ hb hsn hg1 hg2 hg3 c0 c1 c2_ c3_ c4_;have HB:=m0_;clear m0_)|fail);go_ret;have e:_=bfP l F n0 s:=HSN.out.hit.resolve_right (by rintro⟨tn,h1,_⟩;omega);refine⟨gd,rfl,by have:=HG.out;omega,?_,HB.out⟩;have h_:=HD.out;rw[e] at h_;exact h_
theorem back_end {fr:S38→Nat} {st:List (Fd S38)} {s k:Nat} :backL fr st s k s=[]:=by
 cases k with
 |zero=>rfl
 |succ k=>rw[backL,Yx rfl]
theorem way_of {l:List S74} {F:List Int} {n s:Nat} {st:List (Fd S38)} (hr:Right l F n) (hs:s<n) (h:Fds (frP l) (toP l) (esP l F) s st) (hp: ∃ r,bfP l F n s=st ++ r) {x:Fd S38} (hx:x∈st):wayP l F n s x.v=(backL (frP l) st s x.lv x.v).reverse:=by
 obtain⟨r,hr1⟩:=hp;unfold wayP;rw[Yx (by rw[hr1,nodes_app];exact List.mem_append_left _ (List.mem_map_of_mem hx))];unfold wayL;rw[hr1,backL_more h esP_fr r x.lv hx (Nat.le_refl _) (by rw[List.length_append];have:=lv_lt h hx;omega)]
end H
namespace H
open P
set_option maxHeartbeats 2000000 in
set_option maxRecDepth 100000 in
theorem steps_calls (n0:Nat) (Zb:Bool) (A2:Option Addr) (c2:Nat) (l:List S74) (A3:Option Addr) (c3:Nat) (F:List Int) (A4:Option Addr) (c4:Nat) (v:Nat) (w:World)
  (hv:v<n0) (hn50:n0≤50) {ad:Addr} (hA:A4=some ad) {Av:Option Addr} {LN cv:Nat} (hrw:w.cell? (ad.add v)=some (.slice Av LN cv)):
  Calls Try.prog 140 #[.agg #[.int .i64 (n0:Int), .bool Zb, .slice A2 l.length c2, .slice A3 F.length c3, .slice A4 n0 c4], .int .i64 (v:Int)] w fun e w'=>e= .returned (.slice Av LN cv)∧Below w.heap.size w w':=by
 have hu118:=Try.underlying118;subst hA;have HRW:=Ya hrw;have px:(0:Int)≤(v:Int):=by omega
 have qx:(v:Int)<(n0:Int):=by omega
 clear hrw;go_enter Try.func140,Try.ntmps140;go_upto_region 1 with (first|((with_reducible refine gate_dst (N:=2) rfl ?_);refine Yz ?hg (N:=2) ?hd (cs:= #[.int .i64 (n0:Int), .bool Zb, .slice A2 l.length c2, .slice A3 F.length c3, .slice (some ad) n0 c4]) (t:=118) ?hr ?_;(case hd=>rfl);(case hg=>rfl);(case hr=>first|(go_simp;done)|(go_simp;rfl));intro g2 hg2 w3 Zf hb;have B2:=Ya Zf;have HB:=Ya hb;clear hg2 hb Zf)|fail)
 have a4:w3.cell? ⟨g2,4,none⟩=some (.slice (some ad) n0 c4):=(Yc B2.out 4).trans rfl;have hr3:=pw_cell_below HB.out HRW.out;go_wp2_with fail;go_ret;exact⟨rfl,HB.out⟩
def nI (nx:List Nat):List Int:=nx.map fun j:Nat=>(j:Int)
theorem nI_len (nx:List Nat):(nI nx).length=nx.length:=by simp[nI]
theorem nI_get (nx:List Nat) (v:Nat) (h:v<nx.length):(nI nx).getD v 0=((nx.getD v 0:Nat):Int):=by
 rw[List.getD_eq_getElem?_getD,List.getD_eq_getElem?_getD];unfold nI;rw[List.getElem?_map,List.getElem?_eq_getElem h];rfl
theorem nI_set (nx:List Nat) (v j:Nat):nI (nx.set v j)=(nI nx).set v (j:Int):=by unfold nI;rw[List.map_set]
structure Fi (n0:Nat) (Zb:Bool) (A2:Option Addr) (c2:Nat) (l:List S74) (gF cF:Nat) (A4:Option Addr) (c4 gx gd gn B:Nat) (F D:List Int) (nx:List Nat) (w:World):Prop where
 x:w.heap[gx]? =some (.cells #[.int .i64 (n0:Int), .bool Zb, .slice A2 l.length c2, .slice (some ⟨gF,0,none⟩) F.length cF, .slice A4 n0 c4, .slice (some ⟨gd,0,none⟩) n0 n0, .slice (some ⟨gn,0,none⟩) n0 n0] 184 (0,0))
 d:IsI w gd D
 nx:IsI w gn (nI nx)
 fl:IsI w gF F
 arcs:Kd.F k74 w (fun k=>k<B∧k≠gF∧k≠gd∧k≠gn∧k≠gx) A2 l.length l
 rows:Kd.F (Kd.slice 38 k38) w (fun k=>k<B∧k≠gF∧k≠gd∧k≠gn∧k≠gx) A4 n0 (rowsAt l n0 n0)
 size:B≤w.heap.size
 low:gx<B∧gd<B∧gn<B∧gF<B
 apart:gx≠gd∧gx≠gn∧gx≠gF∧gd≠gn∧gd≠gF∧gn≠gF
 ca:l.length≤c2
 cf:F.length≤cF
section
variable {n0:Nat} {Zb:Bool} {A2:Option Addr} {c2:Nat} {l:List S74} {gF cF:Nat} {A4:Option Addr} {c4 gx gd gn B:Nat} {F D:List Int} {nx:List Nat} {w w1:World}
theorem Fi.keep (h:Fi n0 Zb A2 c2 l gF cF A4 c4 gx gd gn B F D nx w) (hb:Below B w w1):Fi n0 Zb A2 c2 l gF cF A4 c4 gx gd gn B F D nx w1:=
 ⟨(hb.block _ h.low.1).trans h.x,h.d.same (hb.block _ h.low.2.1),h.nx.same (hb.block _ h.low.2.2.1),h.fl.same (hb.block _ h.low.2.2.2),Kd.F_step h.arcs (fun k hk _=>hb.block k hk.1),Kd.F_step h.rows (fun k hk _=>hb.block k hk.1),Nat.le_trans h.size hb.size,h.low,h.apart,h.ca,h.cf⟩
theorem Fi.below (h:Fi n0 Zb A2 c2 l gF cF A4 c4 gx gd gn B F D nx w) (hb:Below w.heap.size w w1):Fi n0 Zb A2 c2 l gF cF A4 c4 gx gd gn B F D nx w1:=h.keep ⟨hb.os,hb.tape,hb.output,hb.size,fun k hk=>hb.block k (Nat.lt_of_lt_of_le hk h.size)⟩
theorem Fi.put (h:Fi n0 Zb A2 c2 l gF cF A4 c4 gx gd gn B F D nx w) (v j:Nat):Fi n0 Zb A2 c2 l gF cF A4 c4 gx gd gn B F D (nx.set v j) (w.setCell ⟨gn,v,none⟩ (.int .i64 (j:Int))):=
 ⟨blk_far h.x (p:=⟨gn,v,none⟩) h.apart.2.1 _,h.d.far (p:=⟨gn,v,none⟩) h.apart.2.2.2.1 _,by rw[nI_set];exact h.nx.put v _,h.fl.far (p:=⟨gn,v,none⟩) (Ne.symm h.apart.2.2.2.2.2) _,
  Kd.F_far h.arcs (p:=⟨gn,v,none⟩) (fun k hk=>hk.2.2.2.1) _,Kd.F_far h.rows (p:=⟨gn,v,none⟩) (fun k hk=>hk.2.2.2.1) _,by simpa [World.setCell] using h.size,h.low,h.apart,h.ca,h.cf⟩
theorem Fi.ca_ (h:Fi n0 Zb A2 c2 l gF cF A4 c4 gx gd gn B F D nx w):Kd.C k74 w A2 l.length l:=Kd.F_now h.arcs
theorem Fi.row (h:Fi n0 Zb A2 c2 l gF cF A4 c4 gx gd gn B F D nx w) {v:Nat} (hv:v<n0): ∃ (ad:Addr) (Av:Option Addr) (cv:Nat),A4=some ad∧w.cell? (ad.add v)=some (.slice Av (stL l v l.length).length cv)∧(stL l v l.length).length≤cv∧Kd.F k38 w (fun k=>k<B∧k≠gF∧k≠gd∧k≠gn∧k≠gx) Av (stL l v l.length).length (stL l v l.length):=by
 obtain⟨ad,c,hA,_,hFK,hcc,_⟩:=Kd.F_get h.rows [] (v:Int) (by omega) (by omega);have hrow:(rowsAt l n0 n0).getD (v:Int).toNat []=stL l v l.length:=by rw[Int.toNat_natCast,List.getD_eq_getElem?_getD,rowsAt_get l n0 n0 _ hv,Yx hv];rfl
 rw[hrow] at hFK;obtain⟨Av,cv,rfl,hl,hF⟩:=Kd.FK_slice_open hFK;have hrw:=hcc 0 _ rfl;have e0:(v:Int).toNat * (Kd.slice 38 k38).sz+0=v:=by rw[Int.toNat_natCast];show v * 1+0=v;omega
 rw[e0] at hrw;exact⟨ad,Av,cv,hA,hrw,hl,hF⟩
theorem isI_C {g:Nat} {X:List Int} (h:IsI w g X) (hl:X.length≤9223372036854775807):Kd.C (Kd.int .i64) w (some ⟨g,0,none⟩) X.length X:=(Kd.R_reads' (h.R hl (base:=0) (Nat.zero_le _) (ok:=fun _=>True) trivial)).2.2
theorem ks_b {S:Nat→Prop} {w2:World} (h:Ks S w w1) (hb:Below w.heap.size w1 w2):Ks S w w2:=
 ⟨hb.os.trans h.os,hb.tape.trans h.tape,hb.output.trans h.output,Nat.le_trans h.size hb.size,fun k hk hs=>(hb.block k hk).trans (h.block k hk hs)⟩
theorem below_low {b:Nat} (h:b≤w.heap.size) (hb:Below w.heap.size w w1):Below b w w1:=⟨hb.os,hb.tape,hb.output,hb.size,fun k hk=>hb.block k (Nat.lt_of_lt_of_le hk h)⟩
end
end H
namespace H
open P
def nxAt (gn v:Nat) (w:World):Nat:=match w.cell? ⟨gn,v,none⟩ with|some u=>(intOf u).toNat|none=>0
theorem nxAt_eq {gn v:Nat} {nx:List Nat} {w:World} (h:IsI w gn (nI nx)) (hv:v<nx.length):nxAt gn v w=nx.getD v 0:=by
 unfold nxAt;rw[h.cell (by rw[nI_len];exact hv),nI_get nx v hv];show (((nx.getD v 0:Nat):Int)).toNat=_;exact Int.toNat_natCast _
theorem set_same (nx:List Nat) (v:Nat):nx.set v (nx.getD v 0)=nx:=by
 apply List.ext_getElem?;intro i;rw[List.getElem?_set];by_cases h:v=i
 ·subst h
  rw[Yx rfl,List.getD_eq_getElem?_getD];by_cases hl:v<nx.length
  ·rw[Yx hl,List.getElem?_eq_getElem hl];rfl
  ·rw[Yy hl,List.getElem?_eq_none (by omega)]
 ·rw[Yy h]
theorem getD_put (nx:List Nat) (v j:Nat) (h:v<nx.length):(nx.set v j).getD v 0=j:=by rw[List.getD_eq_getElem?_getD,List.getElem?_set_self h];rfl
theorem leads_len {α:Type} {g:Net_ α} (hfr: ∀ u e,e∈g.rows u→g.fr e=u): ∀ {way:List α} {s v:Nat},Leads g.to_ g.rows s way v→(∀ e,e∈way→g.adm (g.fr e) e=true)→g.D v=g.D s+way.length
 |[],s,v,h,_=>by cases h;simp
 |x::way,s,v,h,ha=>by
  have hx:=adm_lv (ha x List.mem_cons_self);rw[hfr _ _ h.1] at hx;have h2:=leads_len hfr h.2 (fun e he=>ha e (List.mem_cons_of_mem _ he));rw[List.length_cons];omega
theorem downG_go {α:Type} {g:Net_ α} {s t k v:Nat} {way:List α} {nx:List Nat} {j:Nat} {e:α} (h:v≠t) (hs:scanG (g.adm v) ((g.rows v).drop (nx.getD v 0)) (nx.getD v 0)=some (j,e)):downG g s t (k+1) v way nx=downG g s t k (g.to_ e) (way ++ [e]) (nx.set v j):=by
 rw[downG,Yy h,hs]
theorem downG_out {α:Type} {g:Net_ α} {t k v:Nat} {way:List α} {nx:List Nat} (h:v≠t) (hs:scanG (g.adm v) ((g.rows v).drop (nx.getD v 0)) (nx.getD v 0)=none):downG g v t (k+1) v way nx=(none,nx.set v (g.rows v).length):=by
 rw[downG,Yy h,hs];show (if v=v then _ else _:Option (List α) × List Nat)=_;rw[Yx rfl]
theorem downG_back {α:Type} {g:Net_ α} {s t k v:Nat} {way:List α} {nx:List Nat} {e:α} (h:v≠t) (hvs:v≠s) (hs:scanG (g.adm v) ((g.rows v).drop (nx.getD v 0)) (nx.getD v 0)=none) (hl:way.getLast? =some e):
  downG g s t (k+1) v way nx=downG g s t k (g.fr e) way.dropLast ((nx.set v (g.rows v).length).set (g.fr e) ((nx.set v (g.rows v).length).getD (g.fr e) 0+1)):=by
 rw[downG,Yy h,hs];show (if v=s then _ else _:Option (List α) × List Nat)=_;rw[Yy hvs,hl]
attribute [local irreducible] wpQuiet
def Dn (n0:Nat) (Zb:Bool) (A2:Option Addr) (c2:Nat) (l:List S74) (gF cF:Nat) (A4:Option Addr) (c4 gx gd gn:Nat) (F D:List Int) (s t:Nat) (R:Option (List S38) × List Nat) (w:World) (v8 v9:Value) (w':World) (k:Nat):Prop:=
 ∃ (v:Nat) (way:List S38) (nx:List Nat),v9= .int .i64 (v:Int)∧DInv (netG l F D) s n0 v way nx∧downM (netG l F D) n0 v nx<k∧downG (netG l F D) s t k v way nx=R∧
  Kd.R k38 38 w' w.heap.size (fun b=>w.heap.size≤b) v8 way∧Fi n0 Zb A2 c2 l gF cF A4 c4 gx gd gn w.heap.size F D nx w'∧Ks (fun b=>b=gn) w w'
set_option maxHeartbeats 20000000 in
set_option maxRecDepth 100000 in
theorem down_calls (n0:Nat) (Zb:Bool) (A2:Option Addr) (c2:Nat) (l:List S74) (gF cF:Nat) (A4:Option Addr) (c4 gx gd gn:Nat) (F D:List Int) (s t:Nat) (nx0:List Nat) (w:World)
  (hR:Right l F n0) (hDl:D.length=n0) (hDb: ∀ v,v<n0→ -1≤D.getD v 0∧D.getD v 0≤50) (hg:(netG l F D).Fine s n0) (hnx:NxOk l n0 nx0) (hs:s<n0) (ht:t<n0) (h:Fi n0 Zb A2 c2 l gF cF A4 c4 gx gd gn w.heap.size F D nx0 w):
  Calls Try.prog 174 #[.pointer (some ⟨gx,0,none⟩), .int .i64 (s:Int), .int .i64 (t:Int)] w fun e w'=> ∃ v:Value,e= .returned (.tuple #[v, .bool (downG (netG l F D) s t 2000000 s [] nx0).1.isSome])∧
   (∀ L,(downG (netG l F D) s t 2000000 s [] nx0).1=some L→Kd.R k38 38 w' w.heap.size (fun _=>True) v L)∧Fi n0 Zb A2 c2 l gF cF A4 c4 gx gd gn w.heap.size F D (downG (netG l F D) s t 2000000 s [] nx0).2 w'∧Ks (fun b=>b=gn) w w':=by
 have hu118:=Try.underlying118;have hu184:=Try.underlying184;have hu115:=Try.underlying115;have hu38:=Try.underlying38;obtain⟨R,hRR⟩: ∃ R,R=downG (netG l F D) s t 2000000 s [] nx0:=⟨_,rfl⟩;rw[← hRR];have HR:=Ya hR;have HRR:=Ya hRR;have HDB:=Ya hDb;have HG:=Ya hg;have HNX:=Ya hnx;have HF:=Ya h;have hn50:=hR.fifty;have harc:=hR.arcs;have har:l.length≤200:=harc;clear hR hRR hDb hg hnx h harc;go_enter Try.func174,Try.ntmps174;go_upto_region 2 with fail
 go_step3;go_wp2_with fail;go_step3;go_wp2_with fail;have m0_:=Ya (HF.out.below (Ye (Yo _ _) (.cells #[] 38)));have HO:Aside0 (Kd.R k38 38 (w.alloc (.cells #[] 38)) w.heap.size (fun b=>w.heap.size≤b) (.slice (some ⟨w.heap.size,0,none⟩) 0 0) []):=⟨IsS.R (B:=[]) (heap_alloc_new w _) (by simp) (Nat.le_refl _) (Nat.le_refl _)⟩;have HK:Aside0 (Ks (fun b=>b=gn) w (w.alloc (.cells #[] 38))):=⟨Ks.of_below (Ye (Yo _ _) _) _⟩;clear HF;have HF:=m0_;clear m0_;generalize w.alloc (.cells #[] 38)=w1 at *;generalize Value.slice (some ⟨w.heap.size,0,none⟩) 0 0=v0 at *;go_loopw [8,9] (fun v8 v9 w'=> ∃ k,Dn n0 Zb A2 c2 l gF cF A4 c4 gx gd gn F D s t R w v8 v9 w' k) (fun v8 v9 w'=>least (fun k=>Dn n0 Zb A2 c2 l gF cF A4 c4 gx gd gn F D s t R w v8 v9 w' k))
 case atStart=>exact⟨2000000,s,[],nx0,rfl,dinv_start hs HNX.out,downM_lt har hn50 _,HRR.out.symm,HO.out,HF.out,HK.out⟩
 case round=>
  clear HO HK HF;have hmin:=least_spec hrel;obtain⟨kk,hkk⟩: ∃ k_,k_=least (fun k=>Dn n0 Zb A2 c2 l gF cF A4 c4 gx gd gn F D s t R w u8 u9 wr k):=⟨_,rfl⟩;rw[← hkk] at hmin;have HLE:=Ya hkk;clear hrel hkk;obtain⟨v,way,nx,rfl,hdi,hdm,hdg,hO,hF,hK⟩:=hmin;obtain⟨k,rfl⟩: ∃ k,kk=k+1:=⟨kk - 1,by omega⟩;have HDI:=Ya hdi;have HDM:=Ya hdm;have HDG:=Ya hdg;have HO:=Ya hO;have HF:=Ya hF;have HK:=Ya hK;have hvn:=hdi.vn;clear hdi hdm hdg hO hF hK;by_cases hvt:v=t
  ·have e1:((v:Int) != (t:Int))=false:=by rw[hvt];simp
   have HR2:Aside0 (R=(some way,nx)):=⟨by rw[← HDG.out];show (if v=t then _ else _:Option (List S38) × List Nat)=_;rw[Yx hvt]⟩;clear hvt;go_wp2_with fail;rw[Exit.noGoto_ret];go_ret2;rw[HR2.out];exact⟨_,rfl,fun L hL=>by cases hL;exact Kd.R_mono HO.out (fun _ _=>trivial),HF.out,HK.out⟩
  ·have e1:((v:Int) != (t:Int))=true:=by rw[bne_iff_ne];omega
   obtain⟨ad,Av,cv,hA,hrw,hlc,hrF⟩:=HF.out.row hvn;obtain⟨LN,hLN⟩: ∃ n_,n_=(stL l v l.length).length:=⟨_,rfl⟩;have hlen4:LN≤400:=by have:=stL_len l v l.length;omega
   rw[← hLN] at hrw hlc hrF;have HLN:=Ya hLN;have HRW:=Ya hrw;have HLC:=Ya hlc;have HRF:=Ya hrF;have HAA:=Ya hA;clear hA hrw hlc hrF hLN;have x0:wr.cell? ⟨gx,0,none⟩=some (.int .i64 (n0:Int)):=(Yc HF.out.x 0).trans rfl;have x1:wr.cell? ⟨gx,1,none⟩=some (.bool Zb):=(Yc HF.out.x 1).trans rfl;have x2:wr.cell? ⟨gx,2,none⟩=some (.slice A2 l.length c2):=(Yc HF.out.x 2).trans rfl;have x3:wr.cell? ⟨gx,3,none⟩=some (.slice (some ⟨gF,0,none⟩) F.length cF):=(Yc HF.out.x 3).trans rfl;have x4:wr.cell? ⟨gx,4,none⟩=some (.slice A4 n0 c4):=(Yc HF.out.x 4).trans rfl;have x5:wr.cell? ⟨gx,5,none⟩=some (.slice (some ⟨gd,0,none⟩) n0 n0):=(Yc HF.out.x 5).trans rfl;have x6:wr.cell? ⟨gx,6,none⟩=some (.slice (some ⟨gn,0,none⟩) n0 n0):=(Yc HF.out.x 6).trans rfl;go_wp2_with (first|(go_at_call 140;refine(steps_calls n0 Zb A2 c2 l (some ⟨gF,0,none⟩) cF F A4 c4 v _ hvn hn50 HAA.out HRW.out).mono ?_;rintro e_ w5 ⟨rfl,hb⟩;have m0_:=Ya (HF.out.below hb);have m1_:=Ya (HK.out.below hb);have m2_:=Ya (Ys HO.out hb);have m3_:=Ya (Kd.F_below HRF.out hb);clear HF HK HO HRF HRW x0 x1 x2 x3 x4 x5 x6 hb;have HF:=m0_;have HK:=m1_;have HO:=m2_;have HRF:=m3_;clear m0_ m1_ m2_ m3_)|fail);have hnl:nx.length=n0:=HDI.out.len;have hle0:nx.getD v 0≤LN:=by rw[HLN.out];exact HDI.out.le v hvn
   obtain⟨SC,hSC⟩: ∃ S,S=scanG ((netG l F D).adm v) ((stL l v l.length).drop (nx.getD v 0)) (nx.getD v 0):=⟨_,rfl⟩;have HSC:=Ya hSC;clear hSC;have HK5:Aside0 (Ks (fun b=>b=gn) w5 w5):=⟨Ks.refl _ _⟩;have hsz5:=HF.out.size;go_loopw [8,9] (fun v8 v9 w'=>v8=u8∧v9= .int .i64 (v:Int)∧ ∃ j:Nat,j≤LN∧Aside0 (nx.getD v 0≤j)∧Aside0 (SC=scanG ((netG l F D).adm v) ((stL l v l.length).drop j) j)∧Aside0 (Fi n0 Zb A2 c2 l gF cF A4 c4 gx gd gn w.heap.size F D (nx.set v j) w')∧Aside0 (Ks (fun b=>b=gn) w w')∧Aside0 (Ks (fun b=>b=gn) w5 w')) (fun _ _ w'=>LN - nxAt gn v w')
   case atStart=>exact⟨rfl,rfl,nx.getD v 0,hle0,⟨Nat.le_refl _⟩,HSC,⟨by rw[set_same];exact HF.out⟩,HK,HK5⟩
   case round=>
    clear HF HK HK5;obtain⟨rfl,rfl,j,hj,HJ0,HSJ,HF,HK,HK5⟩:=hrel;have hcn:=HF.out.nx.cell (j:=v) (by rw[nI_len,List.length_set,hnl];exact hvn);rw[nI_get _ v (by rw[List.length_set,hnl];exact hvn),getD_put nx v j (by rw[hnl];exact hvn)] at hcn;have HNA:Aside0 (nxAt gn v wr=j):=⟨by rw[nxAt_eq HF.out.nx (by rw[List.length_set,hnl];exact hvn),getD_put nx v j (by rw[hnl];exact hvn)]⟩;have pv:(0:Int)≤(v:Int):=by omega
    have qv:(v:Int)<(n0:Int):=by omega
    have x0:wr.cell? ⟨gx,0,none⟩=some (.int .i64 (n0:Int)):=(Yc HF.out.x 0).trans rfl;have x1:wr.cell? ⟨gx,1,none⟩=some (.bool Zb):=(Yc HF.out.x 1).trans rfl;have x2:wr.cell? ⟨gx,2,none⟩=some (.slice A2 l.length c2):=(Yc HF.out.x 2).trans rfl;have x3:wr.cell? ⟨gx,3,none⟩=some (.slice (some ⟨gF,0,none⟩) F.length cF):=(Yc HF.out.x 3).trans rfl;have x4:wr.cell? ⟨gx,4,none⟩=some (.slice A4 n0 c4):=(Yc HF.out.x 4).trans rfl;have x5:wr.cell? ⟨gx,5,none⟩=some (.slice (some ⟨gd,0,none⟩) n0 n0):=(Yc HF.out.x 5).trans rfl;have x6:wr.cell? ⟨gx,6,none⟩=some (.slice (some ⟨gn,0,none⟩) n0 n0):=(Yc HF.out.x 6).trans rfl;by_cases hlt:j<LN
    ·have e2:decide ((j:Int)<(LN:Int))=true:=Yv (by omega)
     have hrC:=Kd.F_now (Kd.F_step HRF.out (fun b hb hbl=>HK5.out.block b hbl hb.2.2.2.1));rw[HLN.out] at hrC;have pj:(0:Int)≤(j:Int):=by omega
     have qj:(j:Int)<(LN:Int):=by omega
     obtain⟨adj,eadj,hs0,hs1⟩:=at_T38 hrC (j:Int) pj (by rw[← HLN.out];exact qj);subst eadj;simp only[Int.toNat_natCast] at hs0 hs1;obtain⟨e,hee⟩: ∃ e_,e_=rd_T38 (stL l v l.length) (j:Int):=⟨_,rfl⟩;rw[← hee] at hs0 hs1;have hej:(stL l v l.length)[j]? =some e:=by
      rw[hee];unfold rd_T38;rw[Int.toNat_natCast,List.getD_eq_getElem?_getD,List.getElem?_eq_getElem (by rw[← HLN.out];exact hlt)];rfl
     have HEJ:=Ya hej;clear hee hej hrC;go_upto_region 8 with fail
     have HN:Aside0 ((wr.alloc (.cells #[.int .i64 e.f0, .bool e.f1] 38)).heap[wr.heap.size]? =some (.cells #[.int .i64 e.f0, .bool e.f1] 38 (0,0))):=⟨heap_alloc_new _ _⟩;have m0_:=Ya (HF.out.below (Ye (Yo _ _) (.cells #[.int .i64 e.f0, .bool e.f1] 38)));have m1_:=Ya (HK.out.below (Ye (Yo _ _) (.cells #[.int .i64 e.f0, .bool e.f1] 38)));have m2_:=Ya (HK5.out.below (Ye (Yo _ _) (.cells #[.int .i64 e.f0, .bool e.f1] 38)));have HGB:Aside0 (w.heap.size≤wr.heap.size):=⟨HF.out.size⟩;clear HF HK HK5 x0 x1 x2 x3 x4 x5 x6 hcn hs0 hs1;have HF:=m0_;have HK:=m1_;have HK5:=m2_;clear m0_ m1_ m2_;generalize wr.alloc (.cells #[.int .i64 e.f0, .bool e.f1] 38)=w7 at *;generalize wr.heap.size=g11 at *;have hso:StepOf l e:=stL_of (List.mem_of_getElem? HEJ.out);obtain⟨u,hu⟩: ∃ u_:Nat,stTo l e=(u_:Int):=⟨(stTo l e).toNat,by have:=stTo_in HR.out hso;omega⟩;have hun:u<n0:=by have:=stTo_in HR.out hso;omega
     have hup:toP l e=u:=by unfold toP;rw[hu,Int.toNat_natCast]
     have hto:=to_f HR.out hso (n0:Int) Zb;rw[hu] at hto;have HTO:=Ya hto;have HUP:=Ya hup;have HSO:=Ya hso;clear hu hup hto hso;have q0: ∀ p:BelowW w7,p.at_.cell? ⟨gx,0,none⟩=some (.int .i64 (n0:Int)):=fun p=>p.cell ((Yc HF.out.x 0).trans rfl)
     have q1: ∀ p:BelowW w7,p.at_.cell? ⟨gx,1,none⟩=some (.bool Zb):=fun p=>p.cell ((Yc HF.out.x 1).trans rfl)
     have q2: ∀ p:BelowW w7,p.at_.cell? ⟨gx,2,none⟩=some (.slice A2 l.length c2):=fun p=>p.cell ((Yc HF.out.x 2).trans rfl)
     have q3: ∀ p:BelowW w7,p.at_.cell? ⟨gx,3,none⟩=some (.slice (some ⟨gF,0,none⟩) F.length cF):=fun p=>p.cell ((Yc HF.out.x 3).trans rfl)
     have q4: ∀ p:BelowW w7,p.at_.cell? ⟨g11,0,none⟩=some (.int .i64 e.f0):=fun p=>p.cell ((Yc HN.out 0).trans rfl)
     have q5: ∀ p:BelowW w7,p.at_.cell? ⟨g11,1,none⟩=some (.bool e.f1):=fun p=>p.cell ((Yc HN.out 1).trans rfl)
     have HCA:Aside0 (∀ p:BelowW w7,Kd.C k74 p.at_ A2 l.length l):=⟨fun p=>Yt HF.out.ca_ p.below⟩;have HCF:Aside0 (∀ p:BelowW w7,Kd.C (Kd.int .i64) p.at_ (some ⟨gF,0,none⟩) F.length F):=⟨fun p=>Yt (isI_C HF.out.fl (by have:=HR.out.len;omega)) p.below⟩;have HC2:=Ya HF.out.ca;have HC3:=Ya HF.out.cf;refine wp_region_quiet_below (by kernel_rfl) (by kernel_rfl) ?_;(repeat(quiet_step ((first|(go_at_call 105;exact calls_below_of (static_Flowing_To.calls (n0:Int) Zb A2 c2 l (some ⟨gF,0,none⟩) cF F e.f0 e.f1 _ _ (HCA.out _) HC2.out (HCF.out _) HC3.out HTO.out))))));refine wpQuiet_nil ?_;intro wq hw';obtain⟨⟨wz,hbq⟩,hwq⟩:=hw';subst hwq;have m0_:=Ya (HF.out.below hbq);have m1_:=Ya (HK.out.below hbq);have m2_:=Ya (HK5.out.below hbq);have m3_:=Ya (Yn HN.out hbq);clear HF HK HK5 HN HCA HCF q0 q1 q2 q3 q4 q5 hbq;have HF:=m0_;have HK:=m1_;have HK5:=m2_;have HN:=m3_;clear m0_ m1_ m2_ m3_;obtain⟨rm,hrm⟩: ∃ d_,d_=stRoom l F e:=⟨_,rfl⟩;have HRM:=Ya (room_f HR.out HSO.out (n0:Int) Zb);rw[← hrm] at HRM;have hrm0:0≤rm:=by rw[hrm];exact(stRoom_in HR.out HSO.out).1
     have HRMV:=Ya hrm;clear hrm;obtain⟨du,hdu⟩: ∃ d_,d_=D.getD u 0:=⟨_,rfl⟩;obtain⟨dv,hdv⟩: ∃ d_,d_=D.getD v 0:=⟨_,rfl⟩;have hbv:=HDB.out v hvn;rw[← hdv] at hbv;obtain⟨d1,hd1⟩: ∃ d_,d_=dv+1:=⟨_,rfl⟩;have hwr:IntKind.i64.wrap (dv+1)=d1:=by rw[hd1];exact IntWalk.i64_in _ (by omega)
     have HD1:=Ya hd1;clear hd1 hbv;have pu:(0:Int)≤(u:Int):=by omega
     have qu:(u:Int)<(n0:Int):=by omega
     have q0: ∀ p:BelowW wq,p.at_.cell? ⟨gx,0,none⟩=some (.int .i64 (n0:Int)):=fun p=>p.cell ((Yc HF.out.x 0).trans rfl)
     have q1: ∀ p:BelowW wq,p.at_.cell? ⟨gx,1,none⟩=some (.bool Zb):=fun p=>p.cell ((Yc HF.out.x 1).trans rfl)
     have q2: ∀ p:BelowW wq,p.at_.cell? ⟨gx,2,none⟩=some (.slice A2 l.length c2):=fun p=>p.cell ((Yc HF.out.x 2).trans rfl)
     have q3: ∀ p:BelowW wq,p.at_.cell? ⟨gx,3,none⟩=some (.slice (some ⟨gF,0,none⟩) F.length cF):=fun p=>p.cell ((Yc HF.out.x 3).trans rfl)
     have q4: ∀ p:BelowW wq,p.at_.cell? ⟨g11,0,none⟩=some (.int .i64 e.f0):=fun p=>p.cell ((Yc HN.out 0).trans rfl)
     have q5: ∀ p:BelowW wq,p.at_.cell? ⟨g11,1,none⟩=some (.bool e.f1):=fun p=>p.cell ((Yc HN.out 1).trans rfl)
     have q6: ∀ p:BelowW wq,p.at_.cell? ⟨gx,5,none⟩=some (.slice (some ⟨gd,0,none⟩) n0 n0):=fun p=>p.cell ((Yc HF.out.x 5).trans rfl)
     have q7: ∀ p:BelowW wq,p.at_.cell? ⟨gd,u,none⟩=some (.int .i64 du):=fun p=>by rw[hdu];exact p.cell (HF.out.d.cell (by rw[hDl];exact hun))
     have q8: ∀ p:BelowW wq,p.at_.cell? ⟨gd,v,none⟩=some (.int .i64 dv):=fun p=>by rw[hdv];exact p.cell (HF.out.d.cell (by rw[hDl];exact hvn))
     have HCA:Aside0 (∀ p:BelowW wq,Kd.C k74 p.at_ A2 l.length l):=⟨fun p=>Yt HF.out.ca_ p.below⟩;have HCF:Aside0 (∀ p:BelowW wq,Kd.C (Kd.int .i64) p.at_ (some ⟨gF,0,none⟩) F.length F):=⟨fun p=>Yt (isI_C HF.out.fl (by have:=HR.out.len;omega)) p.below⟩;have HDU:=Ya hdu;have HDV:=Ya hdv;clear hdu hdv;have hadm:(netG l F D).adm v e=(decide (du=d1) && decide (0<rm)):=by rw[HD1.out,HDU.out,HDV.out,HRMV.out, ← HUP.out];rfl
     have HADM:=Ya hadm;clear hadm;by_cases h1:du=d1
     ·have e3:(du == d1)=true:=beq_iff_eq.2 h1
      by_cases h2:0<rm
      ·have e4:decide (0<rm)=true:=Yv h2
       go_upto_region 9 with fail
       refine wp_region_quiet_below (by kernel_rfl) (by kernel_rfl) ?_;(repeat(quiet_step ((first|(go_at_call 104;exact calls_below_of (static_Flowing_Room.calls (n0:Int) Zb A2 c2 l (some ⟨gF,0,none⟩) cF F e.f0 e.f1 rm _ (HCA.out _) HC2.out (HCF.out _) HC3.out HRM.out))))));refine wpQuiet_nil ?_;intro wq hw';obtain⟨⟨wz,hbq⟩,hwq⟩:=hw';subst hwq;have m0_:=Ya (HF.out.below hbq);have m1_:=Ya (HK.out.below hbq);have m2_:=Ya (HK5.out.below hbq);have m3_:=Ya (Yn HN.out hbq);clear HF HK HK5 HN HCA HCF q0 q1 q2 q3 q4 q5 q6 q7 q8 hbq;have HF:=m0_;have HK:=m1_;have HK5:=m2_;have HN:=m3_;clear m0_ m1_ m2_ m3_;have HSC2:Aside0 (SC=some (j,e)):=⟨by
        rw[HSJ.out];obtain⟨g1,g2⟩:=List.getElem?_eq_some_iff.1 HEJ.out;rw[List.drop_eq_getElem_cons g1,g2,scanG,HADM.out,Yv h1,Yv h2];rfl⟩
       have HO2:Aside0 (Kd.R k38 38 wq w.heap.size (fun b=>w.heap.size≤b) u8 way):=⟨HK5.out.R HO.out (fun b hb _ hbn=>by have:=HF.out.low;omega)⟩;have b0:wq.cell? ⟨g11,0,none⟩=some (.int .i64 e.f0):=(Yc HN.out 0).trans rfl;have b1:wq.cell? ⟨g11,1,none⟩=some (.bool e.f1):=(Yc HN.out 1).trans rfl;have ha:(netG l F D).adm v e=true:=by rw[HADM.out,Yv h1,Yv h2];rfl
       have hwl:way.length≤50:=by
        have h_:=leads_len HG.out.hfr HDI.out.trail HDI.out.adm;have h_2:=HG.out.hs;have h_3:(netG l F D).D v=D.getD v 0:=rfl;have h_4:=(HDB.out v hvn).2;omega
       clear HO;go_wp2_with (first|((with_reducible refine gate_builtin (b:= .append) (xs:= #[.tmp 87, .tmp 89]) rfl ?_);at_builtin;refine Kd.R_append k38 (w0:=wq) w.heap.size rfl (.tmp 87) (.tmp 89) 34 38 (.agg #[(.int .i64 0),(.bool false)]) 16 rfl Try.underlying34 info38 rfl (by decide) (by omega) u8 way e [.int .i64 e.f0, .bool e.f1] (fun b=>w.heap.size≤b) (fun _=>False) rfl rfl ?aP (fun _ hk=>hk.elim) ?aF ?aO ?aB ?aS ?aL ?_;(case aP=>exact k38_mkM _ _ _ e);(case aF=>exact(fun k hk=>Nat.le_trans HF.out.size hk));(case aO=>exact HO2.out);(case aB=>exact Yo _ _);(case aS=>exact HF.out.size);(case aL=>omega);intro v1 w9 ho hb hg hat;have m0_:=Ya ho;have m1_:=Ya (HF.out.keep hb);have m2_:=Ya (ks_b HK.out hb);clear HO2 HF HK HN HK5 ho hb hg hat b0 b1;have HO2:=m0_;have HF:=m1_;have HK:=m2_;clear m0_ m1_ m2_)|fail);have hD:Dn n0 Zb A2 c2 l gF cF A4 c4 gx gd gn F D s t R w v1 (.int .i64 (u:Int)) w9 k:=⟨u,way ++ [e],nx.set v j,rfl,by rw[← HUP.out];exact HDI.out.go HG.out HJ0.out HEJ.out ha,by have h_:=downM_go HG.out HDI.out HJ0.out HEJ.out ha;have h_2:=HDM.out;rw[← HUP.out];exact Nat.lt_of_lt_of_le h_ (Nat.le_of_lt_succ h_2),by rw[← HDG.out,downG_go hvt (HSC.out.symm.trans HSC2.out), ← HUP.out];rfl,HO2.out,HF.out,HK.out⟩;go_roundw
       case rel=>exact⟨k,hD⟩
       case measure=>exact least_lt hD (by rw[← HLE.out];exact Nat.lt_succ_self k)
      ·have e4:decide (0<rm)=false:=Yw h2
       have H2:=Ya h2;clear h2;go_upto_region 9 with fail
       refine wp_region_quiet_below (by kernel_rfl) (by kernel_rfl) ?_;(repeat(quiet_step ((first|(go_at_call 104;exact calls_below_of (static_Flowing_Room.calls (n0:Int) Zb A2 c2 l (some ⟨gF,0,none⟩) cF F e.f0 e.f1 rm _ (HCA.out _) HC2.out (HCF.out _) HC3.out HRM.out))))));refine wpQuiet_nil ?_;intro wq hw';obtain⟨⟨wz,hbq⟩,hwq⟩:=hw';subst hwq;have m0_:=Ya (HF.out.below hbq);have m1_:=Ya (HK.out.below hbq);have m2_:=Ya (HK5.out.below hbq);have m3_:=Ya (Yn HN.out hbq);clear HF HK HK5 HN HCA HCF q0 q1 q2 q3 q4 q5 q6 q7 q8 hbq;have HF:=m0_;have HK:=m1_;have HK5:=m2_;have HN:=m3_;clear m0_ m1_ m2_ m3_;have HSC2:Aside0 (SC=scanG ((netG l F D).adm v) ((stL l v l.length).drop (j+1)) (j+1)):=⟨by
        rw[HSJ.out];obtain⟨g1,g2⟩:=List.getElem?_eq_some_iff.1 HEJ.out;rw[List.drop_eq_getElem_cons g1,g2,scanG,HADM.out,Yw H2.out,Bool.and_false];rfl⟩
       have x0:wq.cell? ⟨gx,0,none⟩=some (.int .i64 (n0:Int)):=(Yc HF.out.x 0).trans rfl;have x1:wq.cell? ⟨gx,1,none⟩=some (.bool Zb):=(Yc HF.out.x 1).trans rfl;have x2:wq.cell? ⟨gx,2,none⟩=some (.slice A2 l.length c2):=(Yc HF.out.x 2).trans rfl;have x3:wq.cell? ⟨gx,3,none⟩=some (.slice (some ⟨gF,0,none⟩) F.length cF):=(Yc HF.out.x 3).trans rfl;have x4:wq.cell? ⟨gx,4,none⟩=some (.slice A4 n0 c4):=(Yc HF.out.x 4).trans rfl;have x5:wq.cell? ⟨gx,5,none⟩=some (.slice (some ⟨gd,0,none⟩) n0 n0):=(Yc HF.out.x 5).trans rfl;have x6:wq.cell? ⟨gx,6,none⟩=some (.slice (some ⟨gn,0,none⟩) n0 n0):=(Yc HF.out.x 6).trans rfl;have hcn:=HF.out.nx.cell (j:=v) (by rw[nI_len,List.length_set,hnl];exact hvn);rw[nI_get _ v (by rw[List.length_set,hnl];exact hvn),getD_put nx v j (by rw[hnl];exact hvn)] at hcn;have fcn:=HF.out.nx.free v;have hwj:IntKind.i64.wrap ((j:Int)+1)=(j:Int)+1:=IntWalk.i64_in _ (by omega);go_wp2_with fail;have hnew:=HF.out.put v (j+1);rw[List.set_set,show ((j+1:Nat):Int)=(j:Int)+1 from rfl] at hnew;go_roundw
       case rel=>exact⟨rfl,rfl,j+1,by omega,⟨by have:=HJ0.out;omega⟩,HSC2,⟨hnew⟩,⟨HK.out.set (g:=gn) (fun _=>rfl) v _⟩,⟨HK5.out.set (g:=gn) (fun _=>rfl) v _⟩⟩
       case measure=>rw[HNA.out];have h_:=nxAt_eq hnew.nx (v:=v) (by rw[List.length_set,hnl];exact hvn);rw[getD_put nx v (j+1) (by rw[hnl];exact hvn)] at h_;rw[h_];omega
     ·have e3:(du == d1)=false:=beq_eq_false_iff_ne.2 h1
      have H1:=Ya h1;clear h1;go_upto_region 9 with fail
      refine wp_region_quiet_below (by kernel_rfl) (by kernel_rfl) ?_;(repeat(quiet_step ((first|(go_at_call 104;exact calls_below_of (static_Flowing_Room.calls (n0:Int) Zb A2 c2 l (some ⟨gF,0,none⟩) cF F e.f0 e.f1 rm _ (HCA.out _) HC2.out (HCF.out _) HC3.out HRM.out))))));refine wpQuiet_nil ?_;intro wq hw';obtain⟨⟨wz,hbq⟩,hwq⟩:=hw';subst hwq;have m0_:=Ya (HF.out.below hbq);have m1_:=Ya (HK.out.below hbq);have m2_:=Ya (HK5.out.below hbq);have m3_:=Ya (Yn HN.out hbq);clear HF HK HK5 HN HCA HCF q0 q1 q2 q3 q4 q5 q6 q7 q8 hbq;have HF:=m0_;have HK:=m1_;have HK5:=m2_;have HN:=m3_;clear m0_ m1_ m2_ m3_;have HSC2:Aside0 (SC=scanG ((netG l F D).adm v) ((stL l v l.length).drop (j+1)) (j+1)):=⟨by
       rw[HSJ.out];obtain⟨g1,g2⟩:=List.getElem?_eq_some_iff.1 HEJ.out;rw[List.drop_eq_getElem_cons g1,g2,scanG,HADM.out,Yw H1.out,Bool.false_and];rfl⟩
      have x0:wq.cell? ⟨gx,0,none⟩=some (.int .i64 (n0:Int)):=(Yc HF.out.x 0).trans rfl;have x1:wq.cell? ⟨gx,1,none⟩=some (.bool Zb):=(Yc HF.out.x 1).trans rfl;have x2:wq.cell? ⟨gx,2,none⟩=some (.slice A2 l.length c2):=(Yc HF.out.x 2).trans rfl;have x3:wq.cell? ⟨gx,3,none⟩=some (.slice (some ⟨gF,0,none⟩) F.length cF):=(Yc HF.out.x 3).trans rfl;have x4:wq.cell? ⟨gx,4,none⟩=some (.slice A4 n0 c4):=(Yc HF.out.x 4).trans rfl;have x5:wq.cell? ⟨gx,5,none⟩=some (.slice (some ⟨gd,0,none⟩) n0 n0):=(Yc HF.out.x 5).trans rfl;have x6:wq.cell? ⟨gx,6,none⟩=some (.slice (some ⟨gn,0,none⟩) n0 n0):=(Yc HF.out.x 6).trans rfl;have hcn:=HF.out.nx.cell (j:=v) (by rw[nI_len,List.length_set,hnl];exact hvn);rw[nI_get _ v (by rw[List.length_set,hnl];exact hvn),getD_put nx v j (by rw[hnl];exact hvn)] at hcn;have fcn:=HF.out.nx.free v;have hwj:IntKind.i64.wrap ((j:Int)+1)=(j:Int)+1:=IntWalk.i64_in _ (by omega);go_wp2_with fail;have hnew:=HF.out.put v (j+1);rw[List.set_set,show ((j+1:Nat):Int)=(j:Int)+1 from rfl] at hnew;go_roundw
      case rel=>exact⟨rfl,rfl,j+1,by omega,⟨by have:=HJ0.out;omega⟩,HSC2,⟨hnew⟩,⟨HK.out.set (g:=gn) (fun _=>rfl) v _⟩,⟨HK5.out.set (g:=gn) (fun _=>rfl) v _⟩⟩
      case measure=>rw[HNA.out];have h_:=nxAt_eq hnew.nx (v:=v) (by rw[List.length_set,hnl];exact hvn);rw[getD_put nx v (j+1) (by rw[hnl];exact hvn)] at h_;rw[h_];omega
    ·have e2:decide ((j:Int)<(LN:Int))=false:=Yw (by omega)
     have hjl:j=LN:=by omega
     have HSN:Aside0 (SC=none):=⟨by rw[HSJ.out,List.drop_of_length_le (by rw[← HLN.out];omega)];rfl⟩;by_cases hvs:v=s
     ·have e5:((v:Int) == (s:Int))=true:=by rw[hvs];simp
      have HR2:Aside0 (R=(none,nx.set v j)):=⟨by
       have h_:=HDG.out;rw[← hvs,downG_out hvt (HSC.out.symm.trans HSN.out)] at h_;rw[← h_,hjl,HLN.out];rfl⟩
      clear hvs;go_wp2_with fail;rw[Exit.noGoto_ret];go_ret2;rw[HR2.out];exact⟨_,rfl,fun L hL=>(by cases hL),HF.out,HK.out⟩
     ·have e5:((v:Int) == (s:Int))=false:=beq_eq_false_iff_ne.2 (by omega)
      have HVS:=Ya hvs;clear hvs;have hwne:way≠[]:=by
       intro hw0;have h_:=HDI.out.trail;rw[hw0] at h_;exact HVS.out h_.symm
      obtain⟨e,he⟩: ∃ e_,way.getLast? =some e_:=⟨_,List.getLast?_eq_some_getLast hwne⟩;obtain⟨q1,q2,_,_,q5,q6⟩:=HDI.out.back HG.out he;have hbk:=downM_back HG.out HDI.out he;have hdb:=downG_back (k:=k) hvt HVS.out (HSC.out.symm.trans HSN.out) he;have hat:=HDI.out.at_ e q6;have hso:StepOf l e:=stL_of (List.mem_of_getElem? hat);have hatl:=(List.getElem?_eq_some_iff.1 hat).1;have ej:((netG l F D).rows v).length=j:=by rw[hjl,HLN.out];rfl
      rw[ej] at q1 hbk hdb;obtain⟨fr,hfr⟩: ∃ f_,f_=frP l e:=⟨_,rfl⟩;have hfre:(netG l F D).fr e=fr:=hfr.symm;rw[hfre] at q1 q2 q5 hbk hdb hatl;obtain⟨y,hy⟩: ∃ y_,y_=(nx.set v j).getD fr 0:=⟨_,rfl⟩;rw[← hy] at q1 hbk hdb;have hyl:y≤400:=by
       have h_:=getD_setN nx v j fr (by rw[hnl];exact hvn);rw[Yy q2] at h_;have h_2:=stL_len l fr l.length;have h_3:((netG l F D).rows fr).length=(stL l fr l.length).length:=rfl;omega
      have hff:=stFrom_in HR.out hso;have hfm:=fromS_f HR.out hso (n0:Int) Zb;have hfi:stFrom l e=(fr:Int):=by rw[hfr];unfold frP;omega
      rw[hfi] at hfm;have HFM:=Ya hfm;have HQ1:=Ya q1;have HBK:=Ya hbk;have HDB2:=Ya hdb;have HY:=Ya hy;have HE:=Ya he;have HO2:Aside0 (Kd.R k38 38 wr w.heap.size (fun b=>w.heap.size≤b) u8 way):=⟨HK5.out.R HO.out (fun b hb _ hbn=>by have:=HF.out.low;omega)⟩;have hwl:way.length≤50:=by
       have h_:=leads_len HG.out.hfr HDI.out.trail HDI.out.adm;have h_2:=HG.out.hs;have h_3:(netG l F D).D v=D.getD v 0:=rfl;have h_4:=(HDB.out v hvn).2;omega
      clear q1 hbk hdb hat hatl hso hff hfi hfm hfre hfr hy he q6 ej HO;obtain⟨Aw,cw,ew⟩:=Kd.R_slice HO2.out;subst ew;have hCw:=(Kd.R_reads' HO2.out).2.2;have hcw:=(Kd.R_reads' HO2.out).2.1;obtain⟨m,hm⟩: ∃ m,way.length=m+1:=⟨way.length - 1,by have:=List.length_pos_iff.2 hwne;omega⟩;have pm:(0:Int)≤(m:Int):=by omega
      have qm:(m:Int)<(way.length:Int):=by omega
      obtain⟨aw,eaw,hs0,hs1⟩:=at_T38 hCw (m:Int) pm qm;subst eaw;simp only[Int.toNat_natCast] at hs0 hs1;have hee:rd_T38 way (m:Int)=e:=by
       have h_:=HE.out;rw[List.getLast?_eq_getElem?,hm,Nat.add_sub_cancel] at h_;unfold rd_T38;rw[Int.toNat_natCast,List.getD_eq_getElem?_getD,h_];rfl
      rw[hee] at hs0 hs1;clear hee hCw;have hwm:IntKind.i64.wrap ((way.length:Int) - 1)=(m:Int):=by rw[hm];have h_:=IntWalk.i64_in ((m:Int)) (by omega);rw[← h_];congr 1;omega
      have hwm2:IntKind.i64.wrap ((way.length:Int)+ -1)=(m:Int):=by rw[hm];have h_:=IntWalk.i64_in ((m:Int)) (by omega);rw[← h_];congr 1;omega
      have HM:=Ya hm;clear hm;go_upto_region 15 with fail
      clear hcn x0 x1 x2 x3 x4 x5 x6;have q0: ∀ p:BelowW wr,p.at_.cell? ⟨gx,0,none⟩=some (.int .i64 (n0:Int)):=fun p=>p.cell ((Yc HF.out.x 0).trans rfl)
      have q1: ∀ p:BelowW wr,p.at_.cell? ⟨gx,1,none⟩=some (.bool Zb):=fun p=>p.cell ((Yc HF.out.x 1).trans rfl)
      have q2_: ∀ p:BelowW wr,p.at_.cell? ⟨gx,2,none⟩=some (.slice A2 l.length c2):=fun p=>p.cell ((Yc HF.out.x 2).trans rfl)
      have q3: ∀ p:BelowW wr,p.at_.cell? ⟨gx,3,none⟩=some (.slice (some ⟨gF,0,none⟩) F.length cF):=fun p=>p.cell ((Yc HF.out.x 3).trans rfl)
      have q4: ∀ p:BelowW wr,p.at_.cell? (aw.add (m * 2))=some (.int .i64 e.f0):=fun p=>p.cell hs0
      have q6: ∀ p:BelowW wr,p.at_.cell? ⟨(aw.add (m * 2)).block,(aw.add (m * 2)).off+1,none⟩=some (.bool e.f1):=fun p=>p.cell hs1
      have HCA:Aside0 (∀ p:BelowW wr,Kd.C k74 p.at_ A2 l.length l):=⟨fun p=>Yt HF.out.ca_ p.below⟩;have HCF:Aside0 (∀ p:BelowW wr,Kd.C (Kd.int .i64) p.at_ (some ⟨gF,0,none⟩) F.length F):=⟨fun p=>Yt (isI_C HF.out.fl (by have:=HR.out.len;omega)) p.below⟩;have HC2:=Ya HF.out.ca;have HC3:=Ya HF.out.cf;clear hs0 hs1;refine wp_region_quiet_below (by kernel_rfl) (by kernel_rfl) ?_;(repeat(quiet_step ((first|(go_at_call 106;exact calls_below_of (static_Flowing_From.calls (n0:Int) Zb A2 c2 l (some ⟨gF,0,none⟩) cF F e.f0 e.f1 (fr:Int) _ (HCA.out _) HC2.out (HCF.out _) HC3.out HFM.out))))));refine wpQuiet_nil ?_;intro wq hw';obtain⟨⟨wz,hbq⟩,hwq⟩:=hw';subst hwq;have m0_:=Ya (HF.out.below hbq);have m1_:=Ya (HK.out.below hbq);have m2_:=Ya (Ys HO2.out hbq);clear HF HK HK5 HO2 HCA HCF q0 q1 q2_ q3 q4 q6 hbq;have HF:=m0_;have HK:=m1_;have HO2:=m2_;clear m0_ m1_ m2_;have x0:wq.cell? ⟨gx,0,none⟩=some (.int .i64 (n0:Int)):=(Yc HF.out.x 0).trans rfl;have x1:wq.cell? ⟨gx,1,none⟩=some (.bool Zb):=(Yc HF.out.x 1).trans rfl;have x2:wq.cell? ⟨gx,2,none⟩=some (.slice A2 l.length c2):=(Yc HF.out.x 2).trans rfl;have x3:wq.cell? ⟨gx,3,none⟩=some (.slice (some ⟨gF,0,none⟩) F.length cF):=(Yc HF.out.x 3).trans rfl;have x4:wq.cell? ⟨gx,4,none⟩=some (.slice A4 n0 c4):=(Yc HF.out.x 4).trans rfl;have x5:wq.cell? ⟨gx,5,none⟩=some (.slice (some ⟨gd,0,none⟩) n0 n0):=(Yc HF.out.x 5).trans rfl;have x6:wq.cell? ⟨gx,6,none⟩=some (.slice (some ⟨gn,0,none⟩) n0 n0):=(Yc HF.out.x 6).trans rfl;have hcn:=HF.out.nx.cell (j:=fr) (by rw[nI_len,List.length_set,hnl];exact q5);rw[nI_get _ fr (by rw[List.length_set,hnl];exact q5), ← HY.out] at hcn;have fcn:=HF.out.nx.free fr;have hwj:IntKind.i64.wrap ((y:Int)+1)=(y:Int)+1:=IntWalk.i64_in _ (by omega);have pf:(0:Int)≤(fr:Int):=by omega
      have qf:(fr:Int)<(n0:Int):=by omega
      go_wp2_with fail;have hnew:=HF.out.put fr (y+1);rw[show ((y+1:Nat):Int)=(y:Int)+1 from rfl] at hnew;have hrt:=Kd.R_take HO2.out (m:=m) (by have:=HM.out;omega);rw[show way.take m=way.dropLast by rw[List.dropLast_eq_take,HM.out,Nat.add_sub_cancel]] at hrt;have hlow:=HF.out.low;have hD:Dn n0 Zb A2 c2 l gF cF A4 c4 gx gd gn F D s t R w (.slice (some aw) m cw) (.int .i64 (fr:Int)) (wq.setCell ⟨gn,fr,none⟩ (.int .i64 ((y:Int)+1))) k:=⟨fr,way.dropLast,(nx.set v j).set fr (y+1),rfl,HQ1.out,by have h_:=HBK.out;have h_2:=HDM.out;omega,by rw[← HDB2.out];exact HDG.out,Kd.R_far hrt (p:=⟨gn,fr,none⟩) (fun b hb hbn=>by have hbn:b=gn:=hbn;omega) _,hnew,HK.out.set (g:=gn) (fun _=>rfl) fr _⟩;go_roundw
      case rel=>exact⟨k,hD⟩
      case measure=>exact least_lt hD (by rw[← HLE.out];exact Nat.lt_succ_self k)
end H
namespace H
open P
structure Fo (n0:Nat) (Zb:Bool) (A2:Option Addr) (c2:Nat) (l:List S74) (gF cF:Nat) (A4:Option Addr) (c4 gx gn B:Nat) (vd:Value) (F:List Int) (nx:List Nat) (w:World):Prop where
 x:w.heap[gx]? =some (.cells #[.int .i64 (n0:Int), .bool Zb, .slice A2 l.length c2, .slice (some ⟨gF,0,none⟩) F.length cF, .slice A4 n0 c4,vd, .slice (some ⟨gn,0,none⟩) n0 n0] 184 (0,0))
 nx:IsI w gn (nI nx)
 fl:IsI w gF F
 arcs:Kd.F k74 w (fun k=>k<B∧k≠gF∧k≠gn∧k≠gx) A2 l.length l
 rows:Kd.F (Kd.slice 38 k38) w (fun k=>k<B∧k≠gF∧k≠gn∧k≠gx) A4 n0 (rowsAt l n0 n0)
 size:B≤w.heap.size
 low:gx<B∧gn<B∧gF<B
 apart:gx≠gn∧gx≠gF∧gn≠gF
 ca:l.length≤c2
 cf:F.length≤cF
section
variable {n0:Nat} {Zb:Bool} {A2:Option Addr} {c2:Nat} {l:List S74} {gF cF:Nat} {A4:Option Addr} {c4 gx gd gn B B':Nat} {vd vd':Value} {F D:List Int} {nx nx':List Nat} {w w1:World}
theorem Fo.keep (h:Fo n0 Zb A2 c2 l gF cF A4 c4 gx gn B vd F nx w) (hb:Below B w w1):Fo n0 Zb A2 c2 l gF cF A4 c4 gx gn B vd F nx w1:=
 ⟨(hb.block _ h.low.1).trans h.x,h.nx.same (hb.block _ h.low.2.1),h.fl.same (hb.block _ h.low.2.2),Kd.F_step h.arcs (fun k hk _=>hb.block k hk.1),Kd.F_step h.rows (fun k hk _=>hb.block k hk.1),Nat.le_trans h.size hb.size,h.low,h.apart,h.ca,h.cf⟩
theorem Fo.below (h:Fo n0 Zb A2 c2 l gF cF A4 c4 gx gn B vd F nx w) (hb:Below w.heap.size w w1):Fo n0 Zb A2 c2 l gF cF A4 c4 gx gn B vd F nx w1:=h.keep (below_low h.size hb)
theorem Fo.ca_ (h:Fo n0 Zb A2 c2 l gF cF A4 c4 gx gn B vd F nx w):Kd.C k74 w A2 l.length l:=Kd.F_now h.arcs
theorem Fo.cr_ (h:Fo n0 Zb A2 c2 l gF cF A4 c4 gx gn B vd F nx w):(Kd.slice 38 k38).C w A4 n0 (rowsAt l n0 n0):=Kd.F_now h.rows
theorem Fo.putD (h:Fo n0 Zb A2 c2 l gF cF A4 c4 gx gn B vd F nx w) (v:Value):Fo n0 Zb A2 c2 l gF cF A4 c4 gx gn B v F nx (w.setCell ⟨gx,5,none⟩ v):=
 ⟨(blk_set h.x 5 v).trans rfl,h.nx.far (p:=⟨gx,5,none⟩) (Ne.symm h.apart.1) _,h.fl.far (p:=⟨gx,5,none⟩) (Ne.symm h.apart.2.1) _,
  Kd.F_far h.arcs (p:=⟨gx,5,none⟩) (fun k hk=>hk.2.2.2) _,Kd.F_far h.rows (p:=⟨gx,5,none⟩) (fun k hk=>hk.2.2.2) _,by simpa [World.setCell] using h.size,h.low,h.apart,h.ca,h.cf⟩
theorem Fo.putN (h:Fo n0 Zb A2 c2 l gF cF A4 c4 gx gn B vd F nx w) (hk:Ks (fun b=>b=gn) w w1) (hn:IsI w1 gn (nI nx')):Fo n0 Zb A2 c2 l gF cF A4 c4 gx gn B vd F nx' w1:=
 ⟨(hk.block _ (blk_lt h.x) h.apart.1).trans h.x,hn,h.fl.same (hk.block _ h.fl.lt (Ne.symm h.apart.2.2)),Kd.F_step h.arcs (fun k hk2 hlt=>hk.block k hlt hk2.2.2.1),Kd.F_step h.rows (fun k hk2 hlt=>hk.block k hlt hk2.2.2.1),Nat.le_trans h.size hk.size,h.low,h.apart,h.ca,h.cf⟩
theorem Fo.putF (h:Fo n0 Zb A2 c2 l gF cF A4 c4 gx gn B vd F nx w) (hk:Ks (fun b=>b=gF) w w1) {G:List Int} (hg:IsI w1 gF G) (hl:G.length=F.length):Fo n0 Zb A2 c2 l gF cF A4 c4 gx gn B vd G nx w1:=by
 refine⟨?_,h.nx.same (hk.block _ h.nx.lt h.apart.2.2),hg,Kd.F_step h.arcs (fun k hk2 hlt=>hk.block k hlt hk2.2.1),Kd.F_step h.rows (fun k hk2 hlt=>hk.block k hlt hk2.2.1),Nat.le_trans h.size hk.size,h.low,h.apart,h.ca,by rw[hl];exact h.cf⟩;rw[hl];exact(hk.block _ (blk_lt h.x) h.apart.2.1).trans h.x
theorem Fo.fi (h:Fo n0 Zb A2 c2 l gF cF A4 c4 gx gn B (.slice (some ⟨gd,0,none⟩) n0 n0) F nx w) (hd:IsI w gd D) (hB:B≤gd) (hB':gd<B') (hw:B'≤w.heap.size):Fi n0 Zb A2 c2 l gF cF A4 c4 gx gd gn B' F D nx w:=by
 have hl:=h.low;have hp:=h.apart;exact⟨h.x,hd,h.nx,h.fl,Kd.F_mono h.arcs (fun k hk=>⟨by omega,hk.2.1,by omega,hk.2.2.1,hk.2.2.2⟩),Kd.F_mono h.rows (fun k hk=>⟨by omega,hk.2.1,by omega,hk.2.2.1,hk.2.2.2⟩),hw,⟨by omega,hB',by omega,by omega⟩,⟨by omega,hp.1,hp.2.1,by omega,by omega,hp.2.2⟩,h.ca,h.cf⟩
theorem Fo.ofFi (h:Fo n0 Zb A2 c2 l gF cF A4 c4 gx gn B (.slice (some ⟨gd,0,none⟩) n0 n0) F nx w) (hk:Ks (fun b=>b=gn) w w1) {C:Nat} (hf:Fi n0 Zb A2 c2 l gF cF A4 c4 gx gd gn C F D nx' w1):Fo n0 Zb A2 c2 l gF cF A4 c4 gx gn B (.slice (some ⟨gd,0,none⟩) n0 n0) F nx' w1:=h.putN hk hf.nx
end
theorem isI_clear {g:Nat} (m:Nat): ∀ {w:World} {X:List Int} (o:Nat),o+m=X.length→IsI w g X→IsI (w.setCells g o (List.replicate m (.int .i64 0))) g (X.take o ++ List.replicate m 0)∧Ks (fun b=>b=g) w (w.setCells g o (List.replicate m (.int .i64 0))):=by
 induction m with
 |zero=>
  intro w X o ho h;rw[List.replicate_zero,List.replicate_zero,List.append_nil,List.take_of_length_le (by omega)];exact⟨h,Ks.refl _ _⟩
 |succ m ih=>
  intro w X o ho h;obtain⟨h1,h2⟩:=ih (o+1) (by rw[List.length_set];omega) (h.put o 0);have e:(X.set o 0).take (o+1)=X.take o ++ [0]:=by
   apply List.ext_getElem?;intro i;rw[List.getElem?_take,List.getElem?_set,List.getElem?_append,List.length_take,List.getElem?_take];have hm:min o X.length=o:=by omega
   rw[hm];by_cases a:i<o
   ·rw[Yx (by omega),Yy (by omega),Yx a,Yx a]
   ·by_cases b:i=o
    ·subst b;rw[Yx (by omega),Yx rfl,Yx (by omega),Yy a,Nat.sub_self];rfl
    ·rw[Yy (by omega),Yy a,List.getElem?_eq_none (by simp;omega)]
  rw[e,List.append_assoc] at h1;refine⟨h1,?_⟩;exact((Ks.refl (fun b=>b=g) w).set (g:=g) (fun _=>rfl) o _).trans h2 (fun b hb _=>hb)
end H
namespace H
open P
open Q (bal)
theorem zero3 (w:World):(zeroValue 3).run Try.prog w= .ok (.int .i64 0) w:=by kernel_rfl
theorem pushW_snoc (F:List Int) (k:Int) (L:List S38) (e:S38):pushW F k (L ++ [e])=goS (pushW F k L) e k:=by unfold pushW;rw[List.foldl_append];rfl
theorem Right.take {l:List S74} {F:List Int} {n:Nat} {k:Int} (h0:0≤k) (hr:Right l F n) {L:List S38} (h: ∀ s,s∈L→StepOf l s∧k≤stRoom l F s) (hp:L.Pairwise (fun a b=>a.f0≠b.f0)) (j:Nat):Right l (H.pushW F k (L.take j)) n:=
 Right.pushW h0 _ hr (fun s hs=>h s (List.mem_of_mem_take hs)) (hp.sublist (List.take_sublist _ _))
theorem take_snoc {L:List S38} {j:Nat} {e:S38} (h:L[j]? =some e):L.take (j+1)=L.take j ++ [e]:=by
 rw[List.take_add_one,h];rfl
theorem ks_cellF {gF g j:Nat} {w w1:World} {v:Value} (h:Ks (fun b=>b=gF) w w1) (hc:w.cell? ⟨g,j,none⟩=some v) (hne: ¬ g=gF):w1.cell? ⟨g,j,none⟩=some v:=by
 have hb:=h.block g (Yb w _ hc) hne
 simpa [World.cell?,hb] using hc
def Ps (n0:Nat) (Zb:Bool) (A2:Option Addr) (c2:Nat) (l:List S74) (gF cF:Nat) (A4:Option Addr) (c4 gx gn B gd:Nat) (D:List Int) (s t:Nat) (R:List Int) (w w':World) (k:Nat):Prop:=
 ∃ (F:List Int) (nx:List Nat),IsFlow l F n0 s t∧NxOk l n0 nx∧209715200<(k:Int)+bal l F s∧phaseF l D s t k F nx=R∧Fo n0 Zb A2 c2 l gF cF A4 c4 gx gn B (.slice (some ⟨gd,0,none⟩) n0 n0) F nx w'∧IsI w' gd D∧Ks (fun b=>b=gx∨b=gF∨b=gn) w w'
set_option maxHeartbeats 20000000 in
set_option maxRecDepth 100000 in
theorem phase_calls (n0:Nat) (Zb:Bool) (A2:Option Addr) (c2:Nat) (l:List S74) (gF cF:Nat) (A4:Option Addr) (c4 gx gn:Nat) (vd:Value) (F:List Int) (s t:Nat) (nx0:List Nat) (w:World)
  (hf:IsFlow l F n0 s t) (hb0:0≤bal l F s) (hs:s<n0) (ht:t<n0) (hst:s≠t) (hn:nx0.length=n0) (h:Fo n0 Zb A2 c2 l gF cF A4 c4 gx gn w.heap.size vd F nx0 w):
  Calls Try.prog 168 #[.pointer (some ⟨gx,0,none⟩), .int .i64 (s:Int), .int .i64 (t:Int)] w fun e w'=> ∃ (vd':Value) (nx':List Nat),e= .returned (.bool (!decide ((dOf n0 (bfP l F n0 s)).getD t 0<0)))∧nx'.length=n0∧
   Fo n0 Zb A2 c2 l gF cF A4 c4 gx gn w.heap.size vd' (if (dOf n0 (bfP l F n0 s)).getD t 0<0 then F else phaseF l (dOf n0 (bfP l F n0 s)) s t 300000000 F (List.replicate n0 0)) nx' w'∧Ks (fun b=>b=gx∨b=gF∨b=gn) w w':=by
 have hu118:=Try.underlying118;have hu184:=Try.underlying184;have hu115:=Try.underlying115;have hu38:=Try.underlying38;have hr:=hf.right;have hn50:=hr.fifty;have hpos:=hr.pos;have hDlen:(dOf n0 (bfP l F n0 s)).length=n0:=dOf_len n0 _;have hfine:=netG_fine (F:=F) hr hs;have hDb: ∀ v,v<n0→ -1≤(dOf n0 (bfP l F n0 s)).getD v 0∧(dOf n0 (bfP l F n0 s)).getD v 0≤50:=by
  intro v hv;have h1:=hfine.hD v hv;refine⟨?_,by have h1:(dOf n0 (bfP l F n0 s)).getD v 0<(n0:Int):=h1;omega⟩;rw[dOf_get _ 0 hv];cases hf:fnd (bfP l F n0 s) v with
  |none=>simp only;omega
  |some x=>simp only;omega
 have hfineG: ∀ G:List Int,(netG l G (dOf n0 (bfP l F n0 s))).Fine s n0:=fun G=>netG_fine (F:=G) hr hs
 have hpush: ∀ {G:List Int} {L:List S38},IsFlow l G n0 s t→Leads (toP l) (fun v=>stL l v l.length) s L t→(∀ e,e∈L→(netG l G (dOf n0 (bfP l F n0 s))).adm (frP l e) e=true)→
   IsFlow l (pushW G (leastR l G L) L) n0 s t∧1≤leastR l G L∧L≠[]∧bal l (pushW G (leastR l G L) L) s=bal l G s+leastR l G L∧L.Pairwise (fun a b=>a.f0≠b.f0)∧(∀ s,s∈L→StepOf l s)∧leastR l G L≤1048576:=fun hG hL ha=>push_found hG hr hs hst hL ha
 obtain⟨D,hD⟩: ∃ D_,D_=dOf n0 (bfP l F n0 s):=⟨_,rfl⟩;have HFIN:Aside0 (∀ G:List Int,(netG l G D).Fine s n0):=⟨by rw[hD];exact hfineG⟩;have HPUSH:Aside0 (∀ {G:List Int} {L:List S38},IsFlow l G n0 s t→Leads (toP l) (fun v=>stL l v l.length) s L t→(∀ e,e∈L→(netG l G D).adm (frP l e) e=true)→
   IsFlow l (pushW G (leastR l G L) L) n0 s t∧1≤leastR l G L∧L≠[]∧bal l (pushW G (leastR l G L) L) s=bal l G s+leastR l G L∧L.Pairwise (fun a b=>a.f0≠b.f0)∧(∀ s,s∈L→StepOf l s)∧leastR l G L≤1048576):=⟨by rw[hD];exact hpush⟩
 rw[← hD] at hDlen hDb;have HDE:=Ya hD;have HDB:=Ya hDb;have HFL:=Ya hf;have HB0:=Ya hb0;have HR:=Ya hr;have HF:=Ya h;rw[← hD];clear hf hb0 hr hfine hDb hfineG hpush hD h;obtain⟨y,hy⟩: ∃ y_,y_=D.getD t 0:=⟨_,rfl⟩;rw[← hy];have HY:=Ya hy;clear hy;have pt:(0:Int)≤(t:Int):=by omega
 have qt:(t:Int)<(n0:Int):=by omega
 go_enter Try.func168,Try.ntmps168;have x0:w.cell? ⟨gx,0,none⟩=some (.int .i64 (n0:Int)):=(Yc HF.out.x 0).trans rfl;have x1:w.cell? ⟨gx,1,none⟩=some (.bool Zb):=(Yc HF.out.x 1).trans rfl;have x2:w.cell? ⟨gx,2,none⟩=some (.slice A2 l.length c2):=(Yc HF.out.x 2).trans rfl;have x3:w.cell? ⟨gx,3,none⟩=some (.slice (some ⟨gF,0,none⟩) F.length cF):=(Yc HF.out.x 3).trans rfl;have x4:w.cell? ⟨gx,4,none⟩=some (.slice A4 n0 c4):=(Yc HF.out.x 4).trans rfl;have x6:w.cell? ⟨gx,6,none⟩=some (.slice (some ⟨gn,0,none⟩) n0 n0):=(Yc HF.out.x 6).trans rfl;go_upto_region 2 with (first|(go_at_call 108;refine(far_calls n0 Zb A2 c2 l (some ⟨gF,0,none⟩) cF F A4 c4 s _ HR.out hs HF.out.ca HF.out.cf HF.out.ca_ (isI_C HF.out.fl (by have:=HR.out.len;have:=HR.out.arcs;omega)) HF.out.cr_).mono ?_;rintro e_ w5 ⟨gd,rfl,hge,hd,hb⟩;have m0_:=Ya (HF.out.below hb);have HGE:=Ya hge;have HD5:=Ya hd;have HB5:=Ya hb;clear HF hge hd hb x0 x1 x2 x3 x4 x6;have HF:=m0_;clear m0_;have y5:w5.cell? ⟨gx,5,none⟩=some vd:=(Yc HF.out.x 5).trans rfl;have f5:=Yf HF.out.x 5)|fail)
 have hDb5:=HD5.out;rw[← HDE.out] at hDb5;have hlow:=HF.out.low;have HFD:Aside0 (Fo n0 Zb A2 c2 l gF cF A4 c4 gx gn w.heap.size (.slice (some ⟨gd,0,none⟩) n0 n0) F nx0 (w5.setCell ⟨gx,5,none⟩ (.slice (some ⟨gd,0,none⟩) n0 n0))):=⟨HF.out.putD _⟩;have HDI:Aside0 (IsI (w5.setCell ⟨gx,5,none⟩ (.slice (some ⟨gd,0,none⟩) n0 n0)) gd D):=⟨hDb5.far (p:=⟨gx,5,none⟩) (by have:=HGE.out;show gd≠gx;omega) _⟩;have HK:Aside0 (Ks (fun b=>b=gx∨b=gF∨b=gn) w (w5.setCell ⟨gx,5,none⟩ (.slice (some ⟨gd,0,none⟩) n0 n0))):=⟨(Ks.of_below HB5.out _).set (g:=gx) (fun _=> .inl rfl) 5 _⟩;have HGD:=HGE;have HSZ:Aside0 (gd<(w5.setCell ⟨gx,5,none⟩ (.slice (some ⟨gd,0,none⟩) n0 n0)).heap.size):=⟨HDI.out.lt⟩;clear HF HD5 HB5 hDb5 y5 f5 HGE;generalize w5.setCell ⟨gx,5,none⟩ (.slice (some ⟨gd,0,none⟩) n0 n0)=w6 at *;have HF:=HFD;clear HFD;have x0:w6.cell? ⟨gx,0,none⟩=some (.int .i64 (n0:Int)):=(Yc HF.out.x 0).trans rfl;have x1:w6.cell? ⟨gx,1,none⟩=some (.bool Zb):=(Yc HF.out.x 1).trans rfl;have x2:w6.cell? ⟨gx,2,none⟩=some (.slice A2 l.length c2):=(Yc HF.out.x 2).trans rfl;have x3:w6.cell? ⟨gx,3,none⟩=some (.slice (some ⟨gF,0,none⟩) F.length cF):=(Yc HF.out.x 3).trans rfl;have x4:w6.cell? ⟨gx,4,none⟩=some (.slice A4 n0 c4):=(Yc HF.out.x 4).trans rfl;have x6:w6.cell? ⟨gx,6,none⟩=some (.slice (some ⟨gn,0,none⟩) n0 n0):=(Yc HF.out.x 6).trans rfl;have x5:w6.cell? ⟨gx,5,none⟩=some (.slice (some ⟨gd,0,none⟩) n0 n0):=(Yc HF.out.x 5).trans rfl;have d0:w6.cell? ⟨gd,t,none⟩=some (.int .i64 y):=by rw[HY.out];exact HDI.out.cell (by rw[hDlen];exact ht)
 by_cases hy0:y<0
 ·have e1:decide (y<0)=true:=Yv hy0
  go_wp2_with fail;go_ret;exact⟨rfl,_,nx0,hn,HF.out,HK.out⟩
 ·have e1:decide (y<0)=false:=Yw hy0
  have hclr: ∀ ty,(Builtin.clear_ #[25] ty #[.slice (some ⟨gn,0,none⟩) n0 n0]).run Try.prog w6= .ok (.tuple #[]) (w6.setCells gn 0 (List.replicate n0 (.int .i64 0))):=fun ty=>Lib.run_clear_slice w6 25 3 ty (.int .i64 0) Try.underlying25 zero3 rfl rfl gn 0 n0 n0 (by omega) (fun j hj=>by rw[Nat.zero_add,HF.out.nx.cell (by rw[nI_len,hn];exact hj)];rfl) (fun j hj=>HF.out.nx.free _)
  obtain⟨hz,hzk⟩:=isI_clear (g:=gn) n0 (w:=w6) (X:=nI nx0) 0 (by rw[nI_len,hn];omega) HF.out.nx;rw[List.take_zero,List.nil_append,show List.replicate n0 (0:Int)=nI (List.replicate n0 0) by unfold nI;rw[List.map_replicate];rfl] at hz;have HF2:Aside0 (Fo n0 Zb A2 c2 l gF cF A4 c4 gx gn w.heap.size (.slice (some ⟨gd,0,none⟩) n0 n0) F (List.replicate n0 0) (w6.setCells gn 0 (List.replicate n0 (.int .i64 0)))):=⟨HF.out.putN hzk hz⟩;have HD2:Aside0 (IsI (w6.setCells gn 0 (List.replicate n0 (.int .i64 0))) gd D):=⟨HDI.out.kept hzk (by show ¬ gd=gn;have:=HGD.out;omega)⟩;have HK2:Aside0 (Ks (fun b=>b=gx∨b=gF∨b=gn) w (w6.setCells gn 0 (List.replicate n0 (.int .i64 0)))):=⟨HK.out.trans hzk (fun b hb _=> .inr (.inr hb))⟩;clear hz hzk;go_wp2_with fail;clear HF HDI HK hclr x0 x1 x2 x3 x4 x5 x6 d0 HSZ;have HF:=HF2;have HDI:=HD2;have HK:=HK2;clear HF2 HD2 HK2;generalize w6.setCells gn 0 (List.replicate n0 (.int .i64 0))=w7 at *;obtain⟨R,hR⟩: ∃ R,R=phaseF l D s t 300000000 F (List.replicate n0 0):=⟨_,rfl⟩;have HRR:=Ya hR;clear hR;go_loopw [] (fun w'=> ∃ k,Ps n0 Zb A2 c2 l gF cF A4 c4 gx gn w.heap.size gd D s t R w w' k) (fun w'=>least (fun k=>Ps n0 Zb A2 c2 l gF cF A4 c4 gx gn w.heap.size gd D s t R w w' k))
  case atStart=>exact⟨300000000,F,List.replicate n0 0,HFL.out,nx_zero l n0,by have:=HB0.out;omega,HRR.out.symm,HF.out,HDI.out,HK.out⟩
  case round=>
   clear HF HDI HK;have hmin:=least_spec hrel;obtain⟨kk,hkk⟩: ∃ k_,k_=least (fun k=>Ps n0 Zb A2 c2 l gF cF A4 c4 gx gn w.heap.size gd D s t R w wr k):=⟨_,rfl⟩;rw[← hkk] at hmin;have HLE:=Ya hkk;clear hrel hkk;obtain⟨G,nx,hgf,hnx,hgk,hgp,hF,hdi,hK⟩:=hmin;have hgt:=flow_top hgf hs hst;obtain⟨k,rfl⟩: ∃ k,kk=k+1:=⟨kk - 1,by omega⟩;have HGF:=Ya hgf;have HNX:=Ya hnx;have HGK:=Ya hgk;have HGP:=Ya hgp;have HF:=Ya hF;have HDI:=Ya hdi;have HK:=Ya hK;have hwsz:w.heap.size≤wr.heap.size:=hK.size;have HFI:Aside0 (Fi n0 Zb A2 c2 l gF cF A4 c4 gx gd gn wr.heap.size G D nx wr):=⟨hF.fi hdi HGD.out hdi.lt (Nat.le_refl _)⟩;obtain⟨RD,hRD⟩: ∃ R_,R_=downG (netG l G D) s t 2000000 s [] nx:=⟨_,rfl⟩;have hfd:=downG_found (t:=t) (HFIN.out G) 2000000 (dinv_start (F:=G) (D:=D) hs hnx) (downM_lt hgf.right.arcs hgf.right.fifty nx);rw[← hRD] at hfd;have HFD:=Ya hfd;have HRD:=Ya hRD;clear hgf hnx hgk hgp hF hdi hK hgt hfd hRD;go_upto_region 6 with (first|(go_at_call 174;refine(down_calls n0 Zb A2 c2 l gF cF A4 c4 gx gd gn G D s t nx _ HGF.out.right hDlen HDB.out (HFIN.out G) HNX.out hs ht HFI.out).mono ?_;rintro e_ w8 ⟨vw,rfl,hvr,hfi,hks⟩;rw[← HRD.out] at hvr hfi ⊢;have m0_:=Ya (HF.out.ofFi hks hfi);have m1_:=Ya (HDI.out.kept hks (by show ¬ gd=gn;have:=HGD.out;have:=HF.out.low;omega));have m2_:=Ya (HK.out.trans hks (fun b hb _=> .inr (.inr hb)));have HVR:=Ya hvr;clear HF HDI HK HFI hvr hfi hks;have HF:=m0_;have HDI:=m1_;have HK:=m2_;clear m0_ m1_ m2_)|fail)
   obtain⟨o,nx'⟩:=RD;cases o with
   |none=>
    have e2:(!(none:Option (List S38)).isSome)=true:=rfl;have hq:G=R:=by rw[← HGP.out,phase_end HRD.out.symm]
    go_wp2_with fail;go_ret;exact⟨rfl,_,nx',HFD.out.len,by rw[← HRR.out, ← hq];exact HF.out,HK.out⟩
   |some L=>
    have e2:(!(some L:Option (List S38)).isSome)=false:=rfl;obtain⟨hL1,hL2⟩:=HFD.out.way L rfl;have hLl:=leads_len (HFIN.out G).hfr hL1 hL2;obtain⟨p1,p2,p3,p4,p5,p6,p7⟩:=HPUSH.out HGF.out hL1 hL2;have hLn:L.length≤50:=by
     have h_1:=(HDB.out t ht).2;have h_2:=(HFIN.out G).hs;have h_3:(netG l G D).D t=D.getD t 0:=rfl;omega
    have hLp:0<L.length:=List.length_pos_iff.2 p3;have HP1:=Ya p1;have HP4:=Ya p4;have HP5:=Ya p5;have HP6:=Ya p6;have hRv:=HVR.out L rfl;obtain⟨Aw,cw,ew⟩:=Kd.R_slice hRv;subst ew;have hCw:=(Kd.R_reads' hRv).2.2;have hcw:=(Kd.R_reads' hRv).2.1;obtain⟨ad,ead,_⟩:=hCw.2.2 hLp;subst ead;obtain⟨g,eg⟩:=Kd.R_head hRv;subst eg;have hgb:wr.heap.size≤g:=Kd.R_base hRv g rfl;have HWC:Aside0 (∀ (j:Nat) (e:S38),L[j]? =some e→w8.cell? ⟨g,j * 2,none⟩=some (.int .i64 e.f0)∧w8.cell? ⟨g,j * 2+1,none⟩=some (.bool e.f1)):=⟨by
     intro j e hj;obtain⟨ad,ead,c0,c1⟩:=at_T38 hCw (j:Int) (by omega) (by have:=(List.getElem?_eq_some_iff.1 hj).1;omega);injection ead with ead
     subst ead;have hee:rd_T38 L (j:Int)=e:=by
      unfold rd_T38;rw[Int.toNat_natCast,List.getD_eq_getElem?_getD,hj];rfl
     rw[hee,Int.toNat_natCast,add_at,Nat.zero_add] at c0 c1;exact⟨c0,c1⟩⟩
    have hgl:g<w8.heap.size:=Kd.R_lt hRv g rfl;have HGG:Aside0 (w.heap.size≤g):=⟨Nat.le_trans hwsz hgb⟩;clear hL1 hL2 hLl p1 p4 p5 p6 hRv hCw hgb HVR;have x0:w8.cell? ⟨gx,0,none⟩=some (.int .i64 (n0:Int)):=(Yc HF.out.x 0).trans rfl;have x1:w8.cell? ⟨gx,1,none⟩=some (.bool Zb):=(Yc HF.out.x 1).trans rfl;have x2:w8.cell? ⟨gx,2,none⟩=some (.slice A2 l.length c2):=(Yc HF.out.x 2).trans rfl;have x3:w8.cell? ⟨gx,3,none⟩=some (.slice (some ⟨gF,0,none⟩) G.length cF):=(Yc HF.out.x 3).trans rfl;have x4:w8.cell? ⟨gx,4,none⟩=some (.slice A4 n0 c4):=(Yc HF.out.x 4).trans rfl;have x6:w8.cell? ⟨gx,6,none⟩=some (.slice (some ⟨gn,0,none⟩) n0 n0):=(Yc HF.out.x 6).trans rfl;obtain⟨m,hm⟩: ∃ m_,m_=leastR l G L:=⟨_,rfl⟩;rw[← hm] at p2 p7;have HMM:=Ya hm;clear hm;go_upto_region 9 with (first|(go_at_call 153;refine(least_calls n0 Zb A2 c2 l (some ⟨gF,0,none⟩) cF G g cw L _ HGF.out.right HP6.out hLp (by omega) hcw HWC.out HF.out.ca HF.out.cf HF.out.ca_ (isI_C HF.out.fl (by have:=HGF.out.right.len;have:=HGF.out.right.arcs;omega))).mono ?_;rintro e_ w9 ⟨rfl,hb⟩;rw[← HMM.out];have m0_:=Ya (HF.out.below hb);have m1_:=Ya (HDI.out.below hb);have m2_:=Ya (HK.out.below hb);have m3_:Aside0 (∀ (j:Nat) (e:S38),L[j]? =some e→w9.cell? ⟨g,j * 2,none⟩=some (.int .i64 e.f0)∧w9.cell? ⟨g,j * 2+1,none⟩=some (.bool e.f1)):=⟨fun j e hj=>⟨pw_cell_below hb (HWC.out j e hj).1,pw_cell_below hb (HWC.out j e hj).2⟩⟩;have hgl9:g<w9.heap.size:=Nat.lt_of_lt_of_le hgl hb.size;clear HF HDI HK HWC hb x0 x1 x2 x3 x4 x6;have HF:=m0_;have HDI:=m1_;have HK:=m2_;have HWC:=m3_;clear m0_ m1_ m2_ m3_)|fail)
    go_wp2_with fail;go_loopw [51] (fun v51 w'=> ∃ j:Nat,j≤L.length∧v51= .int .i64 (j:Int)∧Aside0 (Fo n0 Zb A2 c2 l gF cF A4 c4 gx gn w.heap.size (.slice (some ⟨gd,0,none⟩) n0 n0) (pushW G m (L.take j)) nx' w')∧Aside0 (IsI w' gd D)∧Aside0 (Ks (fun b=>b=gx∨b=gF∨b=gn) w w')∧Aside0 (∀ (j:Nat) (e:S38),L[j]? =some e→w'.cell? ⟨g,j * 2,none⟩=some (.int .i64 e.f0)∧w'.cell? ⟨g,j * 2+1,none⟩=some (.bool e.f1))∧Aside0 (g<w'.heap.size)) (fun v51 _=>L.length - (intOf v51).toNat)
    case atStart=>exact⟨0,by omega,rfl,by rw[List.take_zero];exact HF,HDI,HK,HWC,⟨hgl9⟩⟩
    case round=>
     clear HF HDI HK HWC hgl hgl9;obtain⟨j,hj,rfl,HF,HDI,HK,HWC,HGL⟩:=hrel;by_cases hlt:j<L.length
     ·have e3:decide ((j:Int)<(L.length:Int))=true:=Yv (by omega)
      obtain⟨e,he⟩: ∃ e,L[j]? =some e:=⟨_,List.getElem?_eq_getElem hlt⟩;obtain⟨c0,c1⟩:=HWC.out j e he;have hmem:=List.mem_of_getElem? he;have hso:=HP6.out e hmem;have hrj:=Right.take (k:=m) (by omega) HGF.out.right (L:=L) (fun x hx=>⟨HP6.out x hx,by rw[HMM.out];exact leastR_le hx⟩) HP5.out j;have hgo:goS (pushW G m (L.take j)) e m=pushW G m (L.take (j+1)):=by rw[take_snoc he,pushW_snoc]
      obtain⟨i,hi,hei⟩:=hso;have hnj:=hrj.nums i hi;have hlj:=hrj.len;obtain⟨Fj,hFj⟩: ∃ F_,F_=pushW G m (L.take j):=⟨_,rfl⟩;rw[← hFj] at hgo hnj hlj HF;have HGO:=Ya hgo;have HNJ:=Ya hnj;have HLJ:=Ya hlj;have HEI:=Ya hei;have hgFj:(pushW G m (L.take (j+1))).length=Fj.length:=by rw[← hgo,goS_len]
      clear hrj hgo hnj hlj hei hFj he hmem;have pj:(0:Int)≤(j:Int):=by omega
      have qj:(j:Int)<(L.length:Int):=by omega
      go_upto_region 12 with fail
      have HN:Aside0 ((wr.alloc (.cells #[.int .i64 e.f0, .bool e.f1] 38)).heap[wr.heap.size]? =some (.cells #[.int .i64 e.f0, .bool e.f1] 38 (0,0))):=⟨heap_alloc_new _ _⟩;have hbA:Below wr.heap.size wr (wr.alloc (.cells #[.int .i64 e.f0, .bool e.f1] 38)):=Ye (Yo _ _) _;have hszr:w.heap.size≤wr.heap.size:=HK.out.size;have m0_:=Ya (HF.out.below hbA);have m1_:=Ya (HDI.out.below hbA);have m2_:=Ya (HK.out.below hbA);have m3_:Aside0 (∀ (j:Nat) (e:S38),L[j]? =some e→(wr.alloc (.cells #[.int .i64 e.f0, .bool e.f1] 38)).cell? ⟨g,j * 2,none⟩=some (.int .i64 e.f0)∧(wr.alloc (.cells #[.int .i64 e.f0, .bool e.f1] 38)).cell? ⟨g,j * 2+1,none⟩=some (.bool e.f1))→True:=fun _=>trivial
      have m4_:Aside0 (∀ (q:Nat) (e_:S38),L[q]? =some e_→(wr.alloc (.cells #[.int .i64 e.f0, .bool e.f1] 38)).cell? ⟨g,q * 2,none⟩=some (.int .i64 e_.f0)∧(wr.alloc (.cells #[.int .i64 e.f0, .bool e.f1] 38)).cell? ⟨g,q * 2+1,none⟩=some (.bool e_.f1)):=⟨fun q e_ hq=>⟨pw_cell_below hbA (HWC.out q e_ hq).1,pw_cell_below hbA (HWC.out q e_ hq).2⟩⟩;clear HF HDI HK HWC c0 c1 m3_ hbA;have HF:=m0_;have HDI:=m1_;have HK:=m2_;have HWC:=m4_;clear m0_ m1_ m2_ m4_;have HGL:=HGL.out;generalize wr.alloc (.cells #[.int .i64 e.f0, .bool e.f1] 38)=w11 at *;generalize wr.heap.size=g11 at *;have x0:w11.cell? ⟨gx,0,none⟩=some (.int .i64 (n0:Int)):=(Yc HF.out.x 0).trans rfl;have x1:w11.cell? ⟨gx,1,none⟩=some (.bool Zb):=(Yc HF.out.x 1).trans rfl;have x2:w11.cell? ⟨gx,2,none⟩=some (.slice A2 l.length c2):=(Yc HF.out.x 2).trans rfl;have x3:w11.cell? ⟨gx,3,none⟩=some (.slice (some ⟨gF,0,none⟩) Fj.length cF):=(Yc HF.out.x 3).trans rfl;have x4:w11.cell? ⟨gx,4,none⟩=some (.slice A4 n0 c4):=(Yc HF.out.x 4).trans rfl;have x6:w11.cell? ⟨gx,6,none⟩=some (.slice (some ⟨gn,0,none⟩) n0 n0):=(Yc HF.out.x 6).trans rfl;have b0:w11.cell? ⟨g11,0,none⟩=some (.int .i64 e.f0):=(Yc HN.out 0).trans rfl;have b1:w11.cell? ⟨g11,1,none⟩=some (.bool e.f1):=(Yc HN.out 1).trans rfl;have hgx: ¬ gx=gF:=HF.out.apart.2.1;have hg11: ¬ g11=gF:=by have:=HF.out.low;omega
      have hgw:g<w11.heap.size:=by have:=blk_lt HN.out;omega
      have hlF:i<Fj.length:=by have:=HLJ.out;omega
      clear x4 x6;go_region_held3 (fun w'=>w'.cell? ⟨gx,0,none⟩=some (.int .i64 (n0:Int))∧w'.cell? ⟨gx,1,none⟩=some (.bool Zb)∧w'.cell? ⟨gx,2,none⟩=some (.slice A2 l.length c2)∧w'.cell? ⟨gx,3,none⟩=some (.slice (some ⟨gF,0,none⟩) Fj.length cF)∧w'.cell? ⟨g11,0,none⟩=some (.int .i64 e.f0)∧w'.cell? ⟨g11,1,none⟩=some (.bool e.f1))
       (first|((try dsimp only);(refine⟨?_,?_,?_,?_,?_,?_⟩)<;>first|(exact pw_cell_below (below_drew (Yo _ _)) (by assumption))|(exact ks_cellF hks (pw_cell_below (below_drew (Yo _ _)) (by assumption)) (by assumption))|(exact ks_cellF hks (by assumption) (by assumption)))|go_keep)
       (first|(go_at_call 154;refine(go_calls (n0:Int) Zb A2 c2 l gF cF Fj e m _ ?hF (i:=i) hlF HEI.out ⟨by omega,by omega⟩ (fun _=>by have:=HNJ.out;omega) (fun _=>by have:=HNJ.out;omega)).mono ?_;(case hF=>first|exact HF.out.fl|exact HF.out.fl.below (below_drew (Yo _ _)));rintro e_ w12 ⟨rfl,hil,hks⟩))
      rw[HGO.out] at hil;have hbd:Below w11.heap.size w11 w11.drew:=below_drew (Yo _ _);have m0_:=Ya ((HF.out.below hbd).putF hks hil hgFj);have m1_:=Ya ((HDI.out.below hbd).kept hks (by show ¬ gd=gF;have:=HGD.out;have:=HF.out.low;omega));have m2_:=Ya ((HK.out.below hbd).trans hks (fun b hb _=> .inr (.inl hb)));have m4_:Aside0 (∀ (q:Nat) (e_:S38),L[q]? =some e_→w12.cell? ⟨g,q * 2,none⟩=some (.int .i64 e_.f0)∧w12.cell? ⟨g,q * 2+1,none⟩=some (.bool e_.f1)):=⟨fun q e_ hq=>⟨ks_cellF hks (pw_cell_below hbd (HWC.out q e_ hq).1) (by have:=HGG.out;have:=HF.out.low;omega),ks_cellF hks (pw_cell_below hbd (HWC.out q e_ hq).2) (by have:=HGG.out;have:=HF.out.low;omega)⟩⟩;have hgw2:g<w12.heap.size:=Nat.lt_of_lt_of_le hgw (Nat.le_trans hbd.size hks.size);clear HF HDI HK HWC hbd hks hil x0 x1 x2 x3 b0 b1 HN;go_wp2_with fail;go_roundw
      case rel=>exact⟨j+1,by omega,by go_num,m0_,m1_,m2_,m4_,⟨hgw2⟩⟩
      case measure=>simp[intOf];omega
     ·have e3:decide ((j:Int)<(L.length:Int))=false:=Yw (by omega)
      have htk:L.take j=L:=List.take_of_length_le (by omega);rw[htk] at HF;have HP1':Aside0 (IsFlow l (pushW G m L) n0 s t∧bal l (pushW G m L) s=bal l G s+m):=⟨by rw[HMM.out];exact⟨HP1.out,HP4.out⟩⟩;have hps:phaseF l D s t (k+1) G nx=phaseF l D s t k (pushW G m L) nx':=by rw[HMM.out];exact phase_step HRD.out.symm
      have HPS:=Ya hps;clear hps htk;have hPs:Ps n0 Zb A2 c2 l gF cF A4 c4 gx gn w.heap.size gd D s t R w wr k:=⟨pushW G m L,nx',HP1'.out.1,⟨HFD.out.len,HFD.out.le⟩,by have:=HP1'.out.2;have:=HGK.out;omega,by rw[← HPS.out];exact HGP.out,HF.out,HDI.out,HK.out⟩;go_wp2_with fail;go_roundw
      case rel=>exact⟨k,hPs⟩
      case measure=>exact least_lt hPs (by rw[← HLE.out];exact Nat.lt_succ_self k)
end H
namespace H
open P
set_option maxHeartbeats 1000000 in
set_option maxRecDepth 100000 in
theorem insertion_nil (A:Option Addr) (cap:Nat) (f:Value) (w:World):
  Calls Try.prog 169 #[.slice A 0 cap, .int .i64 0, .int .i64 0,f] w fun e w'=>e= .returned (.tuple #[])∧w'=w:=by
 go_enter Try.func169,Try.ntmps169;go_wp2;go_loopw [8] (fun i wr=>i= .int .i64 1∧Aside0 (wr=w)) (fun i _=>0)
 case atStart=>exact⟨by go_num,⟨rfl⟩⟩
 case round=>
  obtain⟨rfl,HW⟩:=hrel;go_wp2;go_end0;exact⟨rfl,HW.out⟩
set_option maxHeartbeats 1000000 in
set_option maxRecDepth 100000 in
theorem stable_nil (A:Option Addr) (cap:Nat) (f:Value) (w:World):
  Calls Try.prog 162 #[.slice A 0 cap, .int .i64 0,f] w fun e w'=>e= .returned (.tuple #[])∧w'=w:=by
 go_enter Try.func162,Try.ntmps162;go_wp2_with fail;go_loopw [7,8] (fun va vb wr=>va= .int .i64 0∧vb= .int .i64 20∧Aside0 (wr=w)) (fun va _ _=>0)
 case atStart=>exact⟨by go_num,by go_num,⟨rfl⟩⟩
 case round=>
  obtain⟨rfl,rfl,HW⟩:=hrel;go_wp2_with fail;refine(insertion_nil A cap f _).mono ?_;rintro e1 w1 ⟨rfl,rfl⟩;go_wp2_with fail;go_loopw [6] (fun vs wr=>vs= .int .i64 20∧Aside0 (wr=w)) (fun vs _=>0)
  case atStart=>exact⟨by go_num,HW⟩
  case round=>
   clear HW;obtain⟨rfl,HW⟩:=hrel;go_wp2_with fail;go_end0;exact⟨rfl,HW.out⟩
theorem sortStable_nil (A:Option Addr) (cap:Nat) (f:Value) (w:World):
  Calls Try.prog 143 #[.slice A 0 cap,f] w fun e w'=>e= .returned (.tuple #[])∧w'=w:=by
 go_enter Try.func143,Try.ntmps143;go_wp2_with fail;refine(stable_nil A cap f w).mono ?_;rintro e1 w1 ⟨rfl,rfl⟩;go_wp2_with fail;go_end0;exact⟨rfl,rfl⟩
end H
namespace H
open P
theorem stL_nil {l:List S74} {n:Nat} {v:Int} (hv0:0≤v) (hv:v<n) (hE:ends l n) (h:stepsU l n v=[]):stL l v l.length=[]:=by
 refine List.eq_nil_iff_forall_not_mem.2 fun s hs=> ?_
 have:=(mem_stepsU l n v hv0 hv hE s).2 ((mem_stL l v l.length s).1 hs);rw[h] at this;cases this
theorem row_step (P:List S38) (L:List Int) (b:Bool) (j:Nat) (hj:j<L.length):P ++ (L.take (j+1)).map (fun i=>(⟨i,b⟩:S38))=(P ++ (L.take j).map (fun i=>(⟨i,b⟩:S38))) ++ [⟨rd L (j:Int),b⟩]:=by
 have e:L.take (j+1)=L.take j ++ [rd L (j:Int)]:=by
  rw[List.take_add_one,List.getElem?_eq_getElem hj];show _ ++ [L[j]]=_ ++ [L.getD (j:Int).toNat 0];rw[Int.toNat_natCast,List.getD_eq_getElem?_getD,List.getElem?_eq_getElem hj];rfl
 rw[e,List.map_append,List.append_assoc];rfl
theorem sort_row {w:World} {base go n co k N:Nat} {l:List S74} {X:List (List S38)} {oki:Nat→Prop} {A:Option Addr} {cr:Nat} {RW:List S38}
  (hH:Kd.H (Kd.slice 38 k38) 34 w base (fun _=>True) (.slice (some ⟨go,0,none⟩) n co) X (k:Int) oki [.slice A RW.length cr])
  (hR:Kd.R k38 38 w base oki (.slice A RW.length cr) RW) (hRW:RW=stepsU l N (k:Int)) (hk:k<N) (hE:ends l N) (hl:l.length≤1000000) (hlen:RW.length≤1000000):
  Calls Try.prog 143 #[.slice A RW.length cr, .func (.func 144) #[] #[]] w fun e w'=>e= .returned (.tuple #[])∧
   ∃ v:Value,w.grownBy w' v.ownBlock∧(∀ g,v.ownBlock=some g→base≤g∧ ∃ cells,w.heap[g]? =some (.cells cells 38 (0,0)))∧Kd.S (Kd.slice 38 k38) 34 w' base (fun _=>True) (.slice (some ⟨go,0,none⟩) n co) (X.set k (stL l k l.length)):=by
 have hk0:0≤(k:Int):=by omega
 have hkn:(k:Int)<N:=by omega
 by_cases hp:0<RW.length
 ·obtain⟨g,cap,e,hb,_,cells,hcl⟩:=Kd.R_form hR hp
  injection e with e1 _ e3
  subst e1;subst e3;have hA:=arr_of_R hR hp;refine(sortStable_calls g RW.length cr (fun i=>RW.getD i z38) w hA hlen ?_ ?_).mono ?_
  ·rw[hRW];exact stab_of_list (stab_stepsU l N (k:Int) hk0 hkn hE)
  ·rw[hRW];exact small_steps hk0 hkn hE hl
  ·rintro e w' ⟨rfl,⟨K,hK,hs⟩,hf⟩
   refine⟨rfl, .slice (some ⟨g,0,none⟩) RW.length cr,hf.1,fun g' hg'=> ?_,?_⟩
   ·have:g=g':=by simpa [Value.ownBlock] using hg'
    subst this;exact⟨hb,cells,hcl⟩
   ·have hoki:oki g:=hR.1 g rfl
    have hR':=R_of_arr hR rfl hp hK hf hoki;have hst:(List.range RW.length).map K=stL l k l.length:=by rw[hRW] at hs ⊢;exact sorted_is hk0 hkn hE hs
    rw[hst] at hR';have hS:=Kd.H_back (Kd.H_grown hH hf.1 (fun q hq=>by injection hq with hq;subst hq;exact hoki)) (x':=stL l k l.length) ⟨_,rfl,hR'⟩ (fun _ hk=>hk);rw[Int.toNat_natCast] at hS;exact hS
 ·have h0:RW=[]:=List.eq_nil_of_length_eq_zero (by omega)
  have hst:stL l k l.length=[]:=stL_nil hk0 hkn hE (by rw[← hRW];exact h0);subst h0;refine(sortStable_nil A cr _ w).mono ?_;rintro e w' ⟨rfl,rfl⟩;refine⟨rfl, .slice none 0 0,World.grownBy.refl _ _,fun g' hg'=>by simp[Value.ownBlock] at hg',?_⟩;rw[hst];have hS:=Kd.H_back hH (x':=([]:List S38)) ⟨_,rfl,hR⟩ (fun _ hk=>hk);rw[Int.toNat_natCast] at hS;exact hS
end H
end Go.Proofs.Ytkcpanpdipmmmaa
