/- What the law's row needs of these texts, taken out of them by wip/tool/mini.py: QSortAll QArrRow QSetBase QQueLaw QBfsLaw QWayLaw QRawMem QBase QRefLaw QNet QFlowA QFlowB QPushLaw QFlowWalk QDownLaw QCutLaw QFlowLaw QSeekLaw P58 QQueGrow. -/
import Derived.Test.YtkcpanpdipmmmaaMggjfik
import Derived.Test.YtkcpanpdipmmmaaMockagm
import Derived.RegionTactic
import Derived.ChangeAlike
import Derived.BigRegion
import Derived.LoopTactic
import Derived.WalkKit
import Derived.WalkMore
import Derived.Test.YtkcpanpdipmmmaaProg
import Derived.Test.YtkcpanpdipmmmaaVllglef
import Derived.Deep.RegionHeld3
import Derived.Deep.RegionLaw
import Derived.Deep.AppendLies
import Derived.IntWalk
import Derived.Laws.IdiomCopy
set_option linter.unusedVariables false
set_option linter.unusedSimpArgs false
namespace Go.Proofs.Ytkcpanpdipmmmaa.H
open Go.RowKit Go.Proofs.YtkcpanpdipmmmaaW.PrintWords Go.Proofs.YtkcpanpdipmmmaaW.PrintLast Go.Proofs.YtkcpanpdipmmmaaW.PrintMore Go.Proofs.Ytkcpanpdipmmmaa.P
def Blk (K:Nat→S38) (bs lo hi:Nat):Prop:= ∀ t i j,t * bs+lo≤i→i<j→j<t * bs+bs+lo→j<hi→(K i).f0≤(K j).f0
theorem blk_shift {K:Nat→S38} {bs lo hi:Nat} (h:Blk K bs lo hi):Blk K bs (lo+bs) hi:=fun t i j h1 h2 h3 h4=>by
 have e:(t+1) * bs=t * bs+bs:=Nat.succ_mul t bs
 exact h (t+1) i j (by omega) h2 (by omega) h4
theorem blk_head {K:Nat→S38} {bs lo hi c:Nat} (h:Blk K bs lo hi) (h1:c≤lo+bs) (h2:c≤hi):Le K lo c:=fun i j k1 k2 k3=>h 0 i j (by omega) k2 (by omega) (by omega)
theorem blk_snoc {K:Nat→S38} {bs a c k:Nat} (h:Blk K bs 0 a) (ha:a=k * bs) (hl:Le K a c):Blk K bs 0 c:=fun t i j h1 h2 h3 h4=>by
 by_cases e1:j<a
 ·exact h t i j h1 h2 h3 e1
 ·by_cases e2:a≤i
  ·exact hl i j e2 h2 h4
  ·exfalso
   have e:(t+1) * bs=t * bs+bs:=Nat.succ_mul t bs
   have l1:t * bs<k * bs:=by omega
   have l2:k * bs<(t+1) * bs:=by omega
   have:=Nat.lt_of_mul_lt_mul_right l1
   have:=Nat.lt_of_mul_lt_mul_right l2
   omega
theorem blk_mix {K L:Nat→S38} {bs lo hi c d:Nat} (h:Blk K bs lo hi) (hm:Mix K L c d) (hd:hi≤c∨d≤lo):Blk L bs lo hi:=fun t i j h1 h2 h3 h4=>by
 rw[hm.1 i (by omega),hm.1 j (by omega)];exact h t i j h1 h2 h3 h4
theorem blk_nil (K:Nat→S38) (bs lo:Nat):Blk K bs lo lo:=fun t i j h1 h2 h3 h4=>by omega
def Base3 (M K:Nat→S38) (N:Nat):Prop:=Mix M K 0 N∧Stab K N∧Small K N
theorem base_more {M K L:Nat→S38} {N a b:Nat} (h:Base3 M K N) (hl:Sorted K L N a b) (hb:b≤N):Base3 M L N:=⟨mix_trans h.1 (mix_wide hl.1 (Nat.zero_le _) hb),hl.2.1,hl.2.2.1⟩
set_option maxHeartbeats 2000000 in
set_option maxRecDepth 100000 in
theorem stable_calls (g N cap:Nat) (M:Nat→S38) (w:World) (h:Arr w g N M) (hN:N≤1000000) (hs:Stab M N) (hsm:Small M N):
  Calls Try.prog 162 #[.slice (some ⟨g,0,none⟩) N cap, .int .i64 (N:Int), .func (.func 144) #[] #[]] w fun e w'=>e= .returned (.tuple #[])∧(∃ K,Arr w' g N K∧Sorted M K N 0 N)∧Fr w w' g:=by
 have HA:=Aside0.mk h
 have HB:=Aside0.mk (show Base3 M M N from⟨mix_refl _ _ _,hs,hsm⟩)
 clear h hs hsm
 go_enter Try.func162,Try.ntmps162
 go_wp2_with fail
 go_loopw [7,8] (fun va vb wr=> ∃ a:Nat,a≤N∧va= .int .i64 a∧vb= .int .i64 ((a:Int)+20)∧(∃ k,Aside0 (a=k * 20))∧(∃ K,Aside0 (Arr wr g N K)∧Aside0 (Base3 M K N)∧Aside0 (Blk K 20 0 a))∧Aside0 (Fr w wr g)) (fun va _ _=>N+1 - (intOf va).toNat)
 case atStart=>exact⟨0,by omega,by go_num,by go_num,⟨0,⟨rfl⟩⟩,⟨M,HA,HB,⟨blk_nil _ _ _⟩⟩,⟨grow_refl _ _⟩⟩
 case round=>
  clear HA HB
  obtain⟨a,haN,rfl,rfl,⟨k,hk⟩,⟨K,HA1,HB1,HK⟩,HG⟩:=hrel
  by_cases hlt:a+20≤N
  ·have hz:(a:Int)+20=((a+20:Nat):Int):=by omega
   have hcb:decide (((a+20:Nat):Int)≤(N:Int))=true:=decide_eq_true (by omega)
   rw[hz]
   clear hz
   go_wp2_with fail
   refine(insertion_calls g N cap K a (a+20) _ HA1.out hN (by omega) hlt HB1.out.2.1 HB1.out.2.2).mono ?_
   rintro e1 w1 ⟨rfl,⟨K1,ha1,hk1⟩,hg1⟩
   have HA2:=Aside0.mk ha1
   have HB2:Aside0 (Base3 M K1 N):=⟨base_more HB1.out hk1 hlt⟩
   have HK2:Aside0 (Blk K1 20 0 (a+20)):=⟨blk_snoc (blk_mix HK.out hk1.1 (Or.inl (Nat.le_refl _))) hk.out hk1.2.2.2⟩
   have HG2:Aside0 (Fr w w1 g):=⟨grow_trans HG.out hg1⟩
   have hk2:Aside0 (a+20=(k+1) * 20):=by have:=hk.out;exact⟨by omega⟩
   clear ha1 hk1 hg1 HA1 HB1 HK HG hk
   go_wp2_with fail
   go_roundw
   case rel=>exact⟨a+20,hlt,rfl,by go_num,⟨k+1,hk2⟩,⟨K1,HA2,HB2,HK2⟩,HG2⟩
   case measure=>simp[intOf]<;>omega
  ·have hcb:decide ((a:Int)+20≤(N:Int))=false:=decide_eq_false (by omega)
   go_wp2_with fail
   refine(insertion_calls g N cap K a N _ HA1.out hN haN (Nat.le_refl _) HB1.out.2.1 HB1.out.2.2).mono ?_
   rintro e1 w1 ⟨rfl,⟨K1,ha1,hk1⟩,hg1⟩
   have HA2:=Aside0.mk ha1
   have HB2:Aside0 (Base3 M K1 N):=⟨base_more HB1.out hk1 (Nat.le_refl _)⟩
   have HK2:Aside0 (Blk K1 20 0 N):=⟨blk_snoc (blk_mix HK.out hk1.1 (Or.inl (Nat.le_refl _))) hk.out hk1.2.2.2⟩
   have HG2:Aside0 (Fr w w1 g):=⟨grow_trans HG.out hg1⟩
   clear ha1 hk1 hg1 HA1 HB1 HK HG hk hcb
   go_wp2_with fail
   go_loopw [6] (fun vs wr=> ∃ s:Nat,0<s∧s≤2000020∧vs= .int .i64 s∧(∃ K,Aside0 (Arr wr g N K)∧Aside0 (Base3 M K N)∧Aside0 (Blk K s 0 N))∧Aside0 (Fr w wr g)) (fun vs _=>N - (intOf vs).toNat)
   case atStart=>exact⟨20,by omega,by omega,by go_num,⟨K1,HA2,HB2,HK2⟩,HG2⟩
   case round=>
    clear HA2 HB2 HK2 HG2
    obtain⟨s,hs0,hs1,rfl,⟨K,HA1,HB1,HK⟩,HG⟩:=hrel
    by_cases hsn:s<N
    ·obtain⟨s2,hs2⟩: ∃ s2,2 * s=s2:=⟨_,rfl⟩
     have hz:(2:Int) * (s:Int)=(s2:Int):=by omega
     have hz3:(s:Int) * 2=(s2:Int):=by omega
     have bs2:s2≤2000000:=by omega
     have hcs:decide ((s:Int)<(N:Int))=true:=decide_eq_true (by omega)
     have HS:=Aside0.mk hs2
     have HK0:Aside0 (Blk K s2 0 0∧Blk K s 0 N):=⟨blk_nil _ _ _,HK.out⟩
     clear HK hs2
     go_wp2_with fail
     obtain⟨wo,rfl⟩: ∃ wo:World,wo=wr:=⟨_,rfl⟩
     go_loopw [7,8] (fun va vb wr=> ∃ a b:Nat,a≤N∧va= .int .i64 a∧vb= .int .i64 b∧Aside0 (a+s2=b)∧(∃ k,Aside0 (a=k * s2))∧(∃ K,Aside0 (Arr wr g N K)∧Aside0 (Base3 M K N)∧Aside0 (Blk K s2 0 a∧Blk K s a N))∧Aside0 (Fr w wr g)) (fun va _ _=>N+1 - (intOf va).toNat)
     case atStart=>exact⟨0,s2,by omega,by go_num,rfl,⟨by omega⟩,⟨0,⟨by omega⟩⟩,⟨K,HA1,HB1,HK0⟩,HG⟩
     case round=>
      clear HA1 HB1 HK0 HG
      obtain⟨a,b,haN,rfl,rfl,HBB,⟨k,hk⟩,⟨K,HA1,HB1,HK⟩,HG⟩:=hrel
      obtain⟨m,hm⟩: ∃ m,a+s=m:=⟨_,rfl⟩
      have hz2:(a:Int)+(s:Int)=(m:Int):=by omega
      have HM:=Aside0.mk hm
      clear hm
      by_cases hlt:b≤N
      ·have hcb:decide ((b:Int)≤(N:Int))=true:=decide_eq_true (by omega)
       go_wp2_with fail
       refine(sym_ok g N cap hN N K a m b _ (by omega) HA1.out (by have:=HM.out;omega) (by have:=HM.out;have:=HBB.out;have:=HS.out;omega) hlt HB1.out.2.1 HB1.out.2.2 (blk_head HK.out.2 (by have:=HM.out;omega) (by have:=HM.out;have:=HBB.out;have:=HS.out;omega)) (blk_head (by rw[← HM.out];exact blk_shift HK.out.2) (by have:=HM.out;have:=HBB.out;have:=HS.out;omega) hlt)).mono ?_
       rintro e1 w1 ⟨rfl,⟨K1,ha1,hk1⟩,hg1⟩
       have HA2:=Aside0.mk ha1
       have HB2:Aside0 (Base3 M K1 N):=⟨base_more HB1.out hk1 hlt⟩
       have HK2:Aside0 (Blk K1 s2 0 b∧Blk K1 s b N):=⟨blk_snoc (blk_mix HK.out.1 hk1.1 (Or.inl (Nat.le_refl _))) hk.out hk1.2.2.2,blk_mix (by rw[show b=a+s+s by have:=HBB.out;have:=HS.out;omega];exact blk_shift (blk_shift HK.out.2)) hk1.1 (Or.inr (Nat.le_refl _))⟩
       have HG2:Aside0 (Fr w w1 g):=⟨grow_trans HG.out hg1⟩
       have hk2:Aside0 (b=(k+1) * s2):=⟨by rw[Nat.succ_mul, ← hk.out,HBB.out]⟩
       have hlb:Aside0 (a<b):=⟨by have:=HBB.out;have:=HS.out;omega⟩
       clear ha1 hk1 hg1 HA1 HB1 HK HG hk HBB HM
       go_wp2_with fail
       go_roundw
       case rel=>exact⟨b,b+s2,hlt,rfl,by rw[Int.natCast_add],⟨rfl⟩,⟨k+1,hk2⟩,⟨K1,HA2,HB2,HK2⟩,HG2⟩
       case measure=>have:=hlb.out;simp[intOf]<;>omega
      ·have hcb:decide ((b:Int)≤(N:Int))=false:=decide_eq_false (by omega)
       have hsp:Aside0 (0<s2∧s<s2):=⟨by have:=HS.out;omega⟩
       by_cases hmn:m<N
       ·have hcm:decide ((m:Int)<(N:Int))=true:=decide_eq_true (by omega)
        go_wp2_with fail
        refine(sym_ok g N cap hN N K a m N _ (by omega) HA1.out (by have:=HM.out;omega) hmn (Nat.le_refl _) HB1.out.2.1 HB1.out.2.2 (blk_head HK.out.2 (by have:=HM.out;omega) (by omega)) (blk_head (by rw[← HM.out];exact blk_shift HK.out.2) (by have:=HM.out;have:=HBB.out;have:=HS.out;omega) (Nat.le_refl _))).mono ?_
        rintro e1 w1 ⟨rfl,⟨K1,ha1,hk1⟩,hg1⟩
        have HA2:=Aside0.mk ha1
        have HB2:Aside0 (Base3 M K1 N):=⟨base_more HB1.out hk1 (Nat.le_refl _)⟩
        have HK2:Aside0 (Blk K1 s2 0 N):=⟨blk_snoc (blk_mix HK.out.1 hk1.1 (Or.inl (Nat.le_refl _))) hk.out hk1.2.2.2⟩
        have HG2:Aside0 (Fr w w1 g):=⟨grow_trans HG.out hg1⟩
        clear ha1 hk1 hg1 HA1 HB1 HK HG hk HBB HM
        go_wp2_with fail
        go_roundw
        case rel=>exact⟨s2,hsp.out.1,by omega,rfl,⟨K1,HA2,HB2,HK2⟩,HG2⟩
        case measure=>have:=hsp.out;simp[intOf]<;>omega
       ·have hcm:decide ((m:Int)<(N:Int))=false:=decide_eq_false (by omega)
        have HK2:Aside0 (Blk K s2 0 N):=⟨blk_snoc HK.out.1 hk.out (blk_head HK.out.2 (by have:=HM.out;omega) (Nat.le_refl _))⟩
        clear HK hk HBB HM
        go_wp2_with fail
        go_roundw
        case rel=>exact⟨s2,hsp.out.1,by omega,rfl,⟨K,HA1,HB1,HK2⟩,HG⟩
        case measure=>have:=hsp.out;simp[intOf]<;>omega
    ·have hcs:decide ((s:Int)<(N:Int))=false:=decide_eq_false (by omega)
     go_wp2_with fail
     go_end0
     exact⟨rfl,⟨K,HA1.out,HB1.out.1,HB1.out.2.1,HB1.out.2.2,blk_head HK.out (by omega) (Nat.le_refl _)⟩,HG.out⟩
theorem sortStable_calls (g N cap:Nat) (M:Nat→S38) (w:World) (h:Arr w g N M) (hN:N≤1000000) (hs:Stab M N) (hsm:Small M N):
  Calls Try.prog 143 #[.slice (some ⟨g,0,none⟩) N cap, .func (.func 144) #[] #[]] w fun e w'=>e= .returned (.tuple #[])∧(∃ K,Arr w' g N K∧Sorted M K N 0 N)∧Fr w w' g:=by
 go_enter Try.func143,Try.ntmps143
 go_wp2_with fail
 refine(stable_calls g N cap M w h hN hs hsm).mono ?_
 rintro e1 w1 ⟨rfl,h1,h2⟩
 go_wp2_with fail
 go_end0
 exact⟨rfl,h1,h2⟩
end Go.Proofs.Ytkcpanpdipmmmaa.H
namespace Go.Proofs.Ytkcpanpdipmmmaa.H
open Go.RowKit Go.Proofs.YtkcpanpdipmmmaaW.PrintWords Go.Proofs.YtkcpanpdipmmmaaW.PrintLast Go.Proofs.YtkcpanpdipmmmaaW.PrintMore Go.Proofs.Ytkcpanpdipmmmaa.P
theorem arr_of_R {w:World} {base g cap:Nat} {ok:Nat→Prop} {xs:List S38} (h:Kd.R k38 38 w base ok (.slice (some ⟨g,0,none⟩) xs.length cap) xs) (hp:0<xs.length):Arr w g xs.length fun i=>xs.getD i z38:=by
 obtain⟨g2,cap2,e,_,_,cells,hb⟩:=Kd.R_form h hp
 have eg:g=g2:=by
  injection e with e1 e2 e3
  injection e1 with e1
  injection e1
 subst eg
 refine⟨cells,hb,fun x hx=> ?_⟩
 obtain⟨ad,ea,h1,h2⟩:=at_T38 (Kd.R_reads' h).2.2 (x:Int) (by omega) (by omega)
 injection ea with ea
 subst ea
 simp only[Int.toNat_natCast,add_plain] at h1 h2
 constructor
 ·have:=h1
  simp only[World.cell?,hb] at this
  simpa [rd_T38] using this
 ·have:=h2
  simp only[World.cell?,hb] at this
  simpa [rd_T38] using this
theorem R_of_arr {w w':World} {base g N cap:Nat} {ok ok':Nat→Prop} {xs:List S38} {K:Nat→S38} (h:Kd.R k38 38 w base ok (.slice (some ⟨g,0,none⟩) xs.length cap) xs) (hN:xs.length=N) (hp:0<N) (ha:Arr w' g N K) (hf:Fr w w' g) (hok:ok' g):
  Kd.R k38 38 w' base ok' (.slice (some ⟨g,0,none⟩) N cap) ((List.range N).map K):=by
 obtain⟨h0,inner,ho,hr⟩:=h
 obtain⟨cells',hb',hc⟩:=ha
 obtain⟨_,hq⟩:=ho
 rcases hq with ⟨e,_⟩|⟨g2,cap2,cur,e,hbase,hb,hn,hm,hs,ht⟩
 ·injection e with e1;cases e1
 ·injection e with e1 e2 e3
  injection e1 with e1
  injection e1 with e1
  subst e1;subst e3
  obtain⟨c2,hb2,hs2⟩:=hf.2 _ _ _ hb
  have ec:c2=cells':=by
   have:=hb2.symm.trans hb'
   injection this with this
   injection this
  subst ec
  have hlen:(c2.toList.take (N * 2)).length=N * 2:=by
   rw[List.length_take,Array.length_toList,hs2,hs]
   have:N≤cap:=by omega
   have:N * 2≤cap * 2:=Nat.mul_le_mul_right _ this
   show min (N * 2) (cap * 2)=N * 2
   omega
  refine⟨fun k hk=> ?_,c2.toList.take (N * 2),⟨?_,Or.inr ⟨g,cap,c2,?_,hbase,hb2,?_,hm,by rw[hs2,hs],?_⟩⟩,?_,fun j p hj=> ?_⟩
  ·have:g=k:=by simpa [Value.ownBlock] using hk
   subst this;exact hok
  ·rw[hlen,List.length_map,List.length_range];rfl
  ·rw[List.length_map,List.length_range]
  ·rw[List.length_map,List.length_range];omega
  ·rw[List.length_map,List.length_range];rfl
  ·rw[hlen,List.length_map,List.length_range];rfl
  ·rw[List.getElem?_map] at hj
   obtain⟨q,hq,rfl⟩:=Option.map_eq_some_iff.1 hj
   have hjN:j<N:=by
    have:=(List.getElem?_eq_some_iff.1 hq).1
    rwa [List.length_range] at this
   have eq:q=j:=by
    rw[List.getElem?_range hjN] at hq
    injection hq with hq;exact hq.symm
   subst eq
   have e:((c2.toList.take (N * 2)).drop (q * 2)).take 2=[.int .i64 (K q).f0, .bool (K q).f1]:=by
    obtain⟨c0,c1⟩:=hc q hjN
    apply List.ext_getElem?
    intro m
    rw[List.getElem?_take,List.getElem?_drop,List.getElem?_take]
    match m with
    |0=>rw[if_pos (by omega),if_pos (by omega),Nat.add_zero,Array.getElem?_toList,c0];rfl
    |1=>rw[if_pos (by omega),if_pos (by omega),Array.getElem?_toList,c1];rfl
    |m+2=>rw[if_neg (by omega)];rfl
   show (Kd.M k38 w' base _ (K q) (((c2.toList.take (N * 2)).drop (q * 2)).take 2))
   rw[e]
   exact k38_mkM _ _ _ _
theorem stab_of_list {xs:List S38} (h:xs.Pairwise fun x y=>x.f0=y.f0→x.f1=false∧y.f1=true):Stab (fun i=>xs.getD i z38) xs.length:=by
 intro i j hij hj e
 rw[List.pairwise_iff_getElem] at h
 have hi:i<xs.length:=by omega
 simp only[List.getD_eq_getElem?_getD,List.getElem?_eq_getElem hi,List.getElem?_eq_getElem hj,Option.getD_some] at e ⊢
 exact h i j hi hj hij e
theorem small_steps {l:List S74} {n:Nat} {v:Int} (hv0:0≤v) (hv:v<n) (hE:ends l n) (hl:l.length≤1000000):Small (fun i=>(stepsU l n v).getD i z38) (stepsU l n v).length:=by
 intro i hi
 simp only[List.getD_eq_getElem?_getD,List.getElem?_eq_getElem hi,Option.getD_some]
 obtain⟨k,h1,h2,_⟩:=(mem_stepsU l n v hv0 hv hE _).1 (List.getElem_mem hi)
 rw[h2]
 omega
theorem sorted_is {l:List S74} {n:Nat} {v:Int} {K:Nat→S38} (hv0:0≤v) (hv:v<n) (hE:ends l n)
  (h:Sorted (fun i=>(stepsU l n v).getD i z38) K (stepsU l n v).length 0 (stepsU l n v).length):(List.range (stepsU l n v).length).map K=stL l v l.length:=by
 obtain⟨⟨_,m1,m2⟩,hst,_,hle⟩:=h
 refine sorted_uniq _ _ ?_ (sorted_stL l v l.length) fun s=> ?_
 ·rw[List.pairwise_map]
  refine List.Pairwise.imp_of_mem (R:=(· < ·)) (fun {a b} ha hb hab=> ?_) List.pairwise_lt_range
  rw[List.mem_range] at ha hb
  have:=hle a b (Nat.zero_le _) hab hb
  by_cases e:(K a).f0=(K b).f0
  ·exact Or.inr ⟨e,hst a b hab hb e⟩
  ·exact Or.inl (by omega)
 ·rw[mem_stL, ← mem_stepsU l n v hv0 hv hE,List.mem_map]
  constructor
  ·rintro⟨i,hi,rfl⟩
   rw[List.mem_range] at hi
   obtain⟨y,_,hy,e⟩:=m1 i (Nat.zero_le _) hi
   rw[e]
   simp only[List.getD_eq_getElem?_getD,List.getElem?_eq_getElem hy,Option.getD_some]
   exact List.getElem_mem hy
  ·intro hs
   obtain⟨y,hy,e⟩:=List.mem_iff_getElem.1 hs
   obtain⟨x,_,hx,e2⟩:=m2 y (Nat.zero_le _) hy
   refine⟨x,List.mem_range.2 hx,?_⟩
   rw[e2]
   simp only[List.getD_eq_getElem?_getD,List.getElem?_eq_getElem hy,Option.getD_some]
   exact e
def rowsAt (l:List S74) (n k:Nat):List (List S38):=(List.range n).map fun v=>if v<k then stL l v l.length else []
theorem rowsAt_len (l:List S74) (n k:Nat):(rowsAt l n k).length=n:=by
 unfold rowsAt;rw[List.length_map,List.length_range]
theorem rowsAt_get (l:List S74) (n k v:Nat) (hv:v<n):(rowsAt l n k)[v]? =some (if v<k then stL l v l.length else []):=by
 unfold rowsAt
 rw[List.getElem?_map,List.getElem?_range hv]
 rfl
theorem rowsAt_zero (l:List S74) (n:Nat):rowsAt l n 0=List.replicate n []:=by
 apply List.ext_getElem?
 intro v
 by_cases hv:v<n
 ·rw[rowsAt_get l n 0 v hv,List.getElem?_replicate,if_pos hv,if_neg (by omega)]
 ·rw[List.getElem?_eq_none (by rw[rowsAt_len];omega),List.getElem?_eq_none (by rw[List.length_replicate];omega)]
theorem rowsAt_set (l:List S74) (n k:Nat) (hk:k<n):(rowsAt l n k).set k (stL l k l.length)=rowsAt l n (k+1):=by
 apply List.ext_getElem?
 intro v
 by_cases hv:v<n
 ·rw[rowsAt_get l n (k+1) v hv]
  by_cases e:k=v
  ·subst e
   rw[List.getElem?_set_self (by rw[rowsAt_len];exact hk),if_pos (by omega)]
  ·rw[List.getElem?_set_ne e,rowsAt_get l n k v hv]
   by_cases c:v<k
   ·rw[if_pos c,if_pos (by omega)]
   ·rw[if_neg c,if_neg (by omega)]
 ·rw[List.getElem?_eq_none (by rw[List.length_set,rowsAt_len];omega),List.getElem?_eq_none (by rw[rowsAt_len];omega)]
theorem rowsAt_self (l:List S74) (n k:Nat) (hk:k<n):(rowsAt l n k).set k []=rowsAt l n k:=by
 apply List.ext_getElem?
 intro v
 by_cases e:k=v
 ·subst e
  rw[List.getElem?_set_self (by rw[rowsAt_len];exact hk),rowsAt_get l n k k hk,if_neg (by omega)]
 ·rw[List.getElem?_set_ne e]
theorem rd_set (X:List (List S38)) (k:Nat) (r:List S38) (hk:k<X.length):rd_L4 (X.set k r) (k:Int)=r:=by
 unfold rd_L4
 rw[List.getD_eq_getElem?_getD,Int.toNat_natCast,List.getElem?_set_self hk]
 rfl
end Go.Proofs.Ytkcpanpdipmmmaa.H
namespace Go.Proofs.Ytkcpanpdipmmmaa.H
open Go.RowKit Go.Proofs.YtkcpanpdipmmmaaW.PrintWords Go.Proofs.YtkcpanpdipmmmaaW.PrintLast Go.Proofs.YtkcpanpdipmmmaaW.PrintMore Go.Proofs.Ytkcpanpdipmmmaa.P
structure Right (l:List S74) (F:List Int) (n:Nat):Prop where
 pos:0<n
 fifty:n≤50
 arcs:l.length≤200
 len:F.length=l.length
 ends:ends l n
 nums: ∀ i:Nat,i<l.length→0≤(rd_T74 l i).f3∧(rd_T74 l i).f3≤1048576∧0≤F.getD i 0∧F.getD i 0≤(rd_T74 l i).f2∧(rd_T74 l i).f2≤1048576
theorem stL_len (l:List S74) (v:Int) (k:Nat):(stL l v k).length≤2 * k:=by
 induction k with
 |zero=>exact Nat.le_refl _
 |succ k ih=>
  unfold stL
  rw[List.length_append,List.length_append]
  split<;>split<;>simp<;>omega
def StepOf (l:List S74) (s:S38):Prop:= ∃ i:Nat,i<l.length∧s.f0=i
theorem stL_of {l:List S74} {v:Int} {s:S38} (h:s∈stL l v l.length):StepOf l s:=by
 obtain⟨i,h1,h2,_⟩:=(mem_stL l v l.length s).1 h
 exact⟨i,h1,h2⟩
theorem stL_from {l:List S74} {v:Int} {s:S38} (h:s∈stL l v l.length):stFrom l s=v:=by
 obtain⟨i,h1,h2,h3⟩:=(mem_stL l v l.length s).1 h
 unfold stFrom
 rw[h2]
 rcases h3 with ⟨h3,h4⟩|⟨h3,h4⟩
 ·rw[h3];exact h4
 ·rw[h3];exact h4
theorem stTo_in {l:List S74} {F:List Int} {n:Nat} (hr:Right l F n) {s:S38} (hs:StepOf l s):0≤stTo l s∧stTo l s<n:=by
 obtain⟨i,h1,h2⟩:=hs
 have:=hr.ends i h1
 unfold stTo
 rw[h2]
 split
 ·exact this.1
 ·exact this.2
theorem to_f {l:List S74} {F:List Int} {n:Nat} (hr:Right l F n) {s:S38} (hs:StepOf l s) (a:Int) (b:Bool):static_Flowing_To.f a b l F s.f0 s.f1=some (stTo l s):=by
 obtain⟨i,h1,h2⟩:=hs
 unfold static_Flowing_To.f static_Flowing_From.f stTo eFrom eTo
 rw[h2]
 cases s.f1<;>simp[h1]
theorem room_f {l:List S74} {F:List Int} {n:Nat} (hr:Right l F n) {s:S38} (hs:StepOf l s) (a:Int) (b:Bool):static_Flowing_Room.f a b l F s.f0 s.f1=some (stRoom l F s):=by
 obtain⟨i,h1,h2⟩:=hs
 have h3:=hr.nums i h1
 have h4:=hr.len
 unfold static_Flowing_Room.f stRoom
 rw[h2]
 have e:rd F (i:Int)=F.getD i 0:=by unfold rd;rw[Int.toNat_natCast]
 cases s.f1
 ·have:wrap64 ((rd_T74 l i).f2 - F.getD i 0)=(rd_T74 l i).f2 - F.getD i 0:=by unfold wrap64;omega
  rw[if_neg (by simp),if_pos (by omega),if_pos (by omega),if_pos (by omega),if_neg (by simp),e,this,Int.toNat_natCast]
 ·rw[if_pos rfl,if_pos (by omega),if_pos (by omega),if_pos rfl,e,Int.toNat_natCast]
end Go.Proofs.Ytkcpanpdipmmmaa.H
namespace Go.Proofs.Ytkcpanpdipmmmaa.H
open Go.RowKit Go.Proofs.YtkcpanpdipmmmaaW.PrintWords Go.Proofs.YtkcpanpdipmmmaaW.PrintLast Go.Proofs.YtkcpanpdipmmmaaW.PrintMore Go.Proofs.Ytkcpanpdipmmmaa.P
structure Ks (S:Nat→Prop) (w w':World):Prop where
 os:w'.os=w.os
 tape:w'.tape=w.tape
 output:w'.output=w.output
 size:w.heap.size≤w'.heap.size
 block: ∀ k,k<w.heap.size→ ¬ S k→w'.heap[k]? =w.heap[k]?
section
variable {S T:Nat→Prop} {w w1 w2:World}
theorem Ks.refl (S:Nat→Prop) (w:World):Ks S w w:=⟨rfl,rfl,rfl,Nat.le_refl _,fun _ _ _=>rfl⟩
theorem Ks.trans (h:Ks S w w1) (k:Ks T w1 w2) (hT: ∀ b,T b→b<w.heap.size→S b):Ks S w w2:=
 ⟨k.os.trans h.os,k.tape.trans h.tape,k.output.trans h.output,Nat.le_trans h.size k.size,fun b hb hs=>(k.block b (Nat.lt_of_lt_of_le hb h.size) (fun ht=>hs (hT b ht hb))).trans (h.block b hb hs)⟩
theorem Ks.of_below (h:Below w.heap.size w w1) (S:Nat→Prop):Ks S w w1:=⟨h.os,h.tape,h.output,h.size,fun b hb _=>h.block b hb⟩
theorem Ks.below (h:Ks S w w1) (hb:Below w1.heap.size w1 w2):Ks S w w2:=h.trans (Ks.of_below hb (fun _=>False)) (fun _ h=>h.elim)
theorem Ks.trans' {w0:World} (h:Ks S w w1) (hb:Below w0.heap.size w0 w):Ks S w0 w1:=(Ks.of_below hb S).trans h (fun _ h _=>h)
theorem Ks.set (h:Ks S w w1) {g:Nat} (hg:g<w.heap.size→S g) (j:Nat) (u:Value):Ks S w (w1.setCell ⟨g,j,none⟩ u):=
 ⟨h.os,h.tape,h.output,by simpa [World.setCell] using h.size,fun k hk hs=>(Below.heap_setCell w1 ⟨g,j,none⟩ u k (by rintro rfl;exact hs (hg hk))).trans (h.block k hk hs)⟩
theorem Ks.mono (h:Ks S w w1) (hT: ∀ b,S b→b<w.heap.size→T b):Ks T w w1:=⟨h.os,h.tape,h.output,h.size,fun b hb ht=>h.block b hb (fun hs=>ht (hT b hs hb))⟩
theorem Ks.toBelow {B:Nat} {w0:World} (h:Ks S w w1) (hb:Below B w0 w) (hB:B≤w.heap.size) (hS: ∀ b,S b→B≤b):Below B w0 w1:=
 hb.trans ⟨h.os,h.tape,h.output,h.size,fun k hk=>h.block k (by omega) (fun hs=>by have:=hS k hs;omega)⟩
theorem Ks.blk (h:Ks S w w1) {g:Nat} {o:Obj} (hb:w.heap[g]? =some o) (hs: ¬ S g):w1.heap[g]? =some o:=(h.block g (blk_lt hb) hs).trans hb
theorem Ks.R {α:Type} {d:Kd α} {e base:Nat} {ok:Nat→Prop} {v:Value} {xs:List α} (h:Ks S w w1) (hr:d.R e w base ok v xs) (hok: ∀ k,ok k→k<w.heap.size→ ¬ S k):d.R e w1 base ok v xs:=Kd.R_step hr (fun k ho hlt=>h.block k hlt (hok k ho hlt))
end
structure Qu (w:World) (g:Nat) (A:Option Addr) (R:List Int) (fr sz mo:Nat):Prop where
 hd:w.heap[g]? =some (.cells #[.slice A R.length R.length, .int .i64 (fr:Nat), .int .i64 (sz:Nat), .int .i64 (mo:Nat)] 193 (0,0))
 ring:(A=none∧R=[])∨ ∃ b,A=some ⟨b,0,none⟩∧0<R.length∧w.heap[b]? =some (.cells (nums .i64 R).toArray 3 (0,0))
 szr:sz≤R.length
 frr:fr<R.length∨fr=0∧R=[]
 szm:sz≤mo
 mo50:mo≤50
 len:R.length≤200
def quS (g:Nat) (A:Option Addr) (k:Nat):Prop:=k=g∨ ∃ a,A=some a∧k=a.block
def qL (R:List Int) (fr sz:Nat):List Int:=(List.range sz).map fun i=>R.getD ((fr+i) % R.length) 0
theorem Qu.step {w w1:World} {g:Nat} {A:Option Addr} {R:List Int} {fr sz mo:Nat} (h:Qu w g A R fr sz mo) (hb: ∀ k,k<w.heap.size→quS g A k→w1.heap[k]? =w.heap[k]?):Qu w1 g A R fr sz mo:=by
 refine⟨(hb g (blk_lt h.hd) (.inl rfl)).trans h.hd,?_,h.szr,h.frr,h.szm,h.mo50,h.len⟩
 rcases h.ring with h1|⟨b,h1,h2,h3⟩
 ·exact .inl h1
 ·exact .inr ⟨b,h1,h2,(hb b (blk_lt h3) (.inr ⟨_,h1,rfl⟩)).trans h3⟩
theorem Qu.below {w w1:World} {g:Nat} {A:Option Addr} {R:List Int} {fr sz mo:Nat} (h:Qu w g A R fr sz mo) (hb:Below w.heap.size w w1):Qu w1 g A R fr sz mo:=h.step fun k hk _=>hb.block k hk
theorem Qu.ne {w:World} {g b:Nat} {R:List Int} {fr sz mo:Nat} (h:Qu w g (some ⟨b,0,none⟩) R fr sz mo):g≠b:=by
 rcases h.ring with ⟨h1,_⟩|⟨c,h1,h2,h3⟩
 ·cases h1
 ·cases h1
  exact blk_ne h.hd h3 (by decide)
theorem nums_get (R:List Int) (j:Nat) (h:j<R.length):(nums .i64 R).toArray[j]? =some (.int .i64 (R.getD j 0)):=by
 simp[nums,List.getD_eq_getElem?_getD,List.getElem?_eq_getElem h]
theorem mod_add_one (a b m:Nat):((a+1) % m+b) % m=(a+(b+1)) % m:=by
 rw[Nat.mod_add_mod];congr 1;omega
theorem qL_take (R:List Int) (fr sz:Nat) (hf:fr<R.length):qL R fr (sz+1)=R.getD fr 0::qL R ((fr+1) % R.length) sz:=by
 unfold qL
 rw[List.range_succ_eq_map,List.map_cons,Nat.add_zero,Nat.mod_eq_of_lt hf,List.map_map]
 congr 1
 apply List.map_congr_left
 intro i _
 show R.getD ((fr+(i+1)) % R.length) 0=R.getD (((fr+1) % R.length+i) % R.length) 0
 rw[mod_add_one]
attribute [local irreducible] wpQuiet
set_option maxHeartbeats 1000000 in
set_option maxRecDepth 100000 in
theorem que_len (g:Nat) (A:Option Addr) (R:List Int) (fr sz mo:Nat) (w:World) (h:Qu w g A R fr sz mo):
  Calls Try.prog 166 #[.pointer (some ⟨g,0,none⟩)] w fun e w'=>e= .returned (.int .i64 sz)∧w'=w:=by
 have c2:w.cell? ⟨g,2,none⟩=some (.int .i64 sz):=(blk_cell h.hd 2).trans rfl
 clear h
 go_enter Try.func166,Try.ntmps166
 go_wp2
 go_ret
 exact⟨rfl,rfl⟩
set_option maxHeartbeats 1000000 in
set_option maxRecDepth 100000 in
theorem take_core (g b m fr sz:Nat) (x:Int) (w:World) (c0:w.cell? ⟨g,0,none⟩=some (.slice (some ⟨b,0,none⟩) m m)) (c1:w.cell? ⟨g,1,none⟩=some (.int .i64 fr)) (c2:w.cell? ⟨g,2,none⟩=some (.int .i64 (sz+1:Nat)))
  (c3:w.cell? ⟨b,fr,none⟩=some (.int .i64 x)) (f1:w.frozen? ⟨g,1,none⟩=false) (f2:w.frozen? ⟨g,2,none⟩=false) (hne:g≠b) (p0:(0:Int)≤(fr:Int)) (p1:(fr:Int)<(m:Int)) (p2:(m:Int)≤200) (p4:(sz:Int)+1≤50) (p5:(0:Int)≤(sz:Int)):
  Calls Try.prog 167 #[.pointer (some ⟨g,0,none⟩)] w fun e w'=>e= .returned (.tuple #[.int .i64 x, .int .i64 0])∧w'=((w.setCell ⟨g,1,none⟩ (.int .i64 (((fr:Int)+1) % (m:Int)))).setCell ⟨g,2,none⟩ (.int .i64 sz)).drew.drew:=by
 have hu:=Try.underlying193
 have p3:(0:Int)<(m:Int):=by omega
 have e1:((sz:Int)+1 == 0)=false:=beq_eq_false_iff_ne.2 (by omega)
 go_enter Try.func167,Try.ntmps167
 go_wp2_with fail
 go_region
 go_wp2_with fail
 go_region
 go_wp2_with fail
 go_ret2
 exact⟨rfl,rfl⟩
theorem que_take (g b:Nat) (R:List Int) (fr sz mo:Nat) (w:World) (h:Qu w g (some ⟨b,0,none⟩) R fr (sz+1) mo):
  Calls Try.prog 167 #[.pointer (some ⟨g,0,none⟩)] w fun e w'=>e= .returned (.tuple #[.int .i64 (R.getD fr 0), .int .i64 0])∧Qu w' g (some ⟨b,0,none⟩) R ((fr+1) % R.length) sz mo∧Ks (fun k=>k=g) w w':=by
 have hfr:fr<R.length:=by
  rcases h.frr with h1|⟨_,h1⟩
  ·exact h1
  ·have:=h.szr;rw[h1] at this;simp at this
 have hl:=h.len
 have hring:w.heap[b]? =some (.cells (nums .i64 R).toArray 3 (0,0)):=by
  rcases h.ring with ⟨h1,_⟩|⟨c,h1,h2,h3⟩
  ·cases h1
  ·cases h1;exact h3
 have hm:=h.szm
 have h50:=h.mo50
 refine(take_core g b R.length fr sz (R.getD fr 0) w ((blk_cell h.hd 0).trans rfl) ((blk_cell h.hd 1).trans rfl) ((blk_cell h.hd 2).trans rfl) ((blk_cell hring fr).trans (nums_get R fr hfr)) (blk_frozen h.hd 1) (blk_frozen h.hd 2) h.ne (by omega) (by omega) (by omega) (by omega) (by omega)).mono ?_
 rintro e w' ⟨rfl,rfl⟩
 have he:((fr:Int)+1) % (R.length:Int)=(((fr+1) % R.length:Nat):Int):=by rw[Int.natCast_emod];rfl
 rw[he]
 refine⟨rfl,⟨blk_set (blk_set h.hd 1 _) 2 _, .inr ⟨b,rfl,by omega,?_⟩,by have:=h.szr;omega, .inl (Nat.mod_lt _ (by omega)),by omega,h50,hl⟩,?_⟩
 ·exact blk_far (blk_far hring (p:=⟨g,1,none⟩) (Ne.symm h.ne) _) (p:=⟨g,2,none⟩) (Ne.symm h.ne) _
 ·exact(((Ks.refl (fun k=>k=g) w).set (g:=g) (fun _=>rfl) 1 _).set (g:=g) (fun _=>rfl) 2 _).below (below_drew (below_drew (Below.refl _ _)))
end Go.Proofs.Ytkcpanpdipmmmaa.H
namespace Go.Proofs.Ytkcpanpdipmmmaa.H
theorem pigeonN (n:Nat): ∀ L:List Nat,L.Nodup→(∀ x,x∈L→x<n)→L.length≤n:=by
 induction n with
 |zero=>
  intro L _ h
  cases L with
  |nil=>simp
  |cons x L=>exact absurd (h x List.mem_cons_self) (Nat.not_lt_zero _)
 |succ n ih=>
  intro L hn h
  by_cases hm:n∈L
  ·have h1:=ih (L.erase n) (hn.erase n) (fun x hx=>by
    have h2:=(hn.mem_erase_iff).1 hx
    have:=h x h2.2
    have:=h2.1
    omega)
   rw[List.length_erase_of_mem hm] at h1
   omega
  ·have:=ih L hn (fun x hx=>by
    have h1:=h x hx
    have:x≠n:=fun e=>hm (e▸hx)
    omega)
   omega
section
variable {α:Type}
structure Fd (α:Type) where
 v:Nat
 by_:α
 lv:Nat
def nodes (st:List (Fd α)):List Nat:=st.map Fd.v
def vis (to_:α→Nat) (lv:Nat) (st:List (Fd α)) (e:α):List (Fd α):=if to_ e∈nodes st then st else st ++ [⟨to_ e,e,lv+1⟩]
def proc (to_:α→Nat) (es:Nat→List α) (st:List (Fd α)) (x:Fd α):List (Fd α):=(es x.v).foldl (vis to_ x.lv) st
def bfs (to_:α→Nat) (es:Nat→List α):Nat→Nat→List (Fd α)→List (Fd α)
 |0,_,st=>st
 |n+1,i,st=>match st[i]? with
  |none=>st
  |some x=>bfs to_ es n (i+1) (proc to_ es st x)
theorem vis_pre (to_:α→Nat) (lv:Nat) (st:List (Fd α)) (e:α): ∃ r,vis to_ lv st e=st ++ r:=by
 unfold vis
 split
 ·exact⟨[],(List.append_nil _).symm⟩
 ·exact⟨_,rfl⟩
theorem fold_pre (to_:α→Nat) (lv:Nat) (l:List α) (st:List (Fd α)): ∃ r,l.foldl (vis to_ lv) st=st ++ r:=by
 induction l generalizing st with
 |nil=>exact⟨[],(List.append_nil _).symm⟩
 |cons e l ih=>
  obtain⟨r,hr⟩:=vis_pre to_ lv st e
  obtain⟨q,hq⟩:=ih (vis to_ lv st e)
  exact⟨r ++ q,by rw[List.foldl_cons,hq,hr,List.append_assoc]⟩
theorem bfs_pre (to_:α→Nat) (es:Nat→List α) (n i:Nat) (st:List (Fd α)): ∃ r,bfs to_ es n i st=st ++ r:=by
 induction n generalizing i st with
 |zero=>exact⟨[],(List.append_nil _).symm⟩
 |succ n ih=>
  unfold bfs
  cases st[i]? with
  |none=>exact⟨[],(List.append_nil _).symm⟩
  |some x=>
   obtain⟨r,hr⟩:=fold_pre to_ x.lv (es x.v) st
   obtain⟨q,hq⟩:=ih (i+1) (proc to_ es st x)
   exact⟨r ++ q,by show bfs to_ es n (i+1) (proc to_ es st x)=_;rw[hq];unfold proc;rw[hr,List.append_assoc]⟩
structure Fds (from_ to_:α→Nat) (es:Nat→List α) (s:Nat) (st:List (Fd α)):Prop where
 nodup:(nodes st).Nodup
 head: ∃ x r,st=x::r∧x.v=s∧x.lv=0
 by_ok: ∀ (j:Nat) (x:Fd α),st[j+1]? =some x→to_ x.by_=x.v∧ ∃ (k:Nat) (y:Fd α),k≤j∧st[k]? =some y∧x.by_∈es y.v∧x.lv=y.lv+1
 up: ∀ (j:Nat) (x y:Fd α),st[j]? =some x→st[j+1]? =some y→x.lv≤y.lv
theorem mem_nodes {st:List (Fd α)} {v:Nat} :v∈nodes st↔ ∃ (j:Nat) (x:Fd α),st[j]? =some x∧x.v=v:=by
 unfold nodes
 rw[List.mem_map]
 constructor
 ·rintro⟨x,hx,rfl⟩
  obtain⟨j,hj⟩:=List.getElem?_of_mem hx
  exact⟨j,x,hj,rfl⟩
 ·rintro⟨j,x,hj,rfl⟩
  exact⟨x,List.mem_of_getElem? hj,rfl⟩
theorem Fds.vis {from_ to_:α→Nat} {es:Nat→List α} {s:Nat} {st:List (Fd α)} (h:Fds from_ to_ es s st) {i:Nat} {x:Fd α} (hx:st[i]? =some x) (hm: ∀ y,y∈st→y.lv≤x.lv+1) {e:α} (he:e∈es x.v):
  Fds from_ to_ es s (vis to_ x.lv st e)∧ ∀ y,y∈H.vis to_ x.lv st e→y.lv≤x.lv+1:=by
 unfold H.vis
 split
 ·exact⟨h,hm⟩
 ·rename_i hn
  have hil:=(List.getElem?_eq_some_iff.1 hx).1
  have hsm: ∀ (j:Nat) (y:Fd α),(st ++ [⟨to_ e,e,x.lv+1⟩])[j]? =some y→(j<st.length∧st[j]? =some y)∨(j=st.length∧y=⟨to_ e,e,x.lv+1⟩):=by
   intro j y hy
   rcases Nat.lt_or_ge j st.length with hj|hj
   ·rw[List.getElem?_append_left hj] at hy;exact .inl ⟨hj,hy⟩
   ·rw[List.getElem?_append_right hj] at hy
    have hj0:j - st.length=0:=by
     have:=(List.getElem?_eq_some_iff.1 hy).1
     simp at this
     omega
    rw[hj0] at hy
    injection hy with hy
    exact .inr ⟨by omega,hy.symm⟩
  refine⟨⟨?_,?_,?_,?_⟩,?_⟩
  ·show (nodes (st ++ [_])).Nodup
   unfold nodes
   rw[List.map_append]
   refine List.nodup_append.2 ⟨h.nodup,by simp,?_⟩
   intro a ha b hb
   simp at hb
   subst hb
   intro e'
   subst e'
   exact hn ha
  ·obtain⟨y,r,hr,h1,h2⟩:=h.head
   exact⟨y,r ++ [_],by rw[hr];rfl,h1,h2⟩
  ·intro j y hy
   rcases hsm _ _ hy with ⟨hj,hy⟩|⟨hj,rfl⟩
   ·obtain⟨h1,k,z,hk,hz,h2,h3⟩:=h.by_ok j y hy
    exact⟨h1,k,z,hk,by rw[List.getElem?_append_left (by omega)];exact hz,h2,h3⟩
   ·exact⟨rfl,i,x,by omega,by rw[List.getElem?_append_left hil];exact hx,he,rfl⟩
  ·intro j y z hy hz
   rcases hsm _ _ hz with ⟨hj,hz⟩|⟨hj,rfl⟩
   ·rw[List.getElem?_append_left (by omega)] at hy
    exact h.up j y z hy hz
   ·rw[List.getElem?_append_left (by omega)] at hy
    exact hm y (List.mem_of_getElem? hy)
  ·intro y hy
   rcases List.mem_append.1 hy with hy|hy
   ·exact hm y hy
   ·rw[List.mem_singleton.1 hy]
    exact Nat.le_refl _
theorem Fds.fold {from_ to_:α→Nat} {es:Nat→List α} {s:Nat} {x:Fd α} (l:List α): ∀ {st:List (Fd α)} (h:Fds from_ to_ es s st) {i:Nat} (hx:st[i]? =some x) (hm: ∀ y,y∈st→y.lv≤x.lv+1) (he: ∀ e,e∈l→e∈es x.v),
  Fds from_ to_ es s (l.foldl (H.vis to_ x.lv) st)∧ ∀ y,y∈l.foldl (H.vis to_ x.lv) st→y.lv≤x.lv+1:=by
 induction l with
 |nil=>intro st h i hx hm he;exact⟨h,hm⟩
 |cons e l ih=>
  intro st h i hx hm he
  obtain⟨h1,h2⟩:=h.vis hx hm (he e List.mem_cons_self)
  obtain⟨r,hr⟩:=vis_pre to_ x.lv st e
  have hx':(H.vis to_ x.lv st e)[i]? =some x:=by rw[hr,List.getElem?_append_left (List.getElem?_eq_some_iff.1 hx).1];exact hx
  exact ih h1 hx' h2 (fun e he'=>he e (List.mem_cons_of_mem _ he'))
theorem fold_mem (to_:α→Nat) (lv:Nat) (l:List α) (st:List (Fd α)) {e:α} (he:e∈l):to_ e∈nodes (l.foldl (vis to_ lv) st):=by
 induction l generalizing st with
 |nil=>cases he
 |cons f l ih=>
  rcases List.mem_cons.1 he with rfl|he
  ·obtain⟨r,hr⟩:=fold_pre to_ lv l (vis to_ lv st e)
   rw[List.foldl_cons,hr]
   have:to_ e∈nodes (vis to_ lv st e):=by
    unfold vis
    split
    ·assumption
    ·unfold nodes;rw[List.map_append];exact List.mem_append_right _ (by simp)
   unfold nodes at this ⊢
   rw[List.map_append]
   exact List.mem_append_left _ this
  ·exact ih _ he
structure Upto (from_ to_:α→Nat) (es:Nat→List α) (s i:Nat) (st:List (Fd α)):Prop where
 fds:Fds from_ to_ es s st
 most: ∀ (x:Fd α),st[i]? =some x→ ∀ y,y∈st→y.lv≤x.lv+1
 seen: ∀ (j:Nat) (x:Fd α),j<i→st[j]? =some x→ ∀ e,e∈es x.v→ ∃ (k:Nat) (y:Fd α),st[k]? =some y∧y.v=to_ e∧y.lv≤x.lv+1
theorem upto_start (from_ to_:α→Nat) (es:Nat→List α) (s:Nat) (e0:α):Upto from_ to_ es s 0 [⟨s,e0,0⟩]:=by
 refine⟨⟨by simp[nodes],⟨_,[],rfl,rfl,rfl⟩,?_,?_⟩,?_,?_⟩
 ·intro j x h;simp at h
 ·intro j x y h1 h2;simp at h2
 ·intro x h y hy
  rw[List.mem_singleton.1 hy]
  exact Nat.zero_le _
 ·intro j x h;exact absurd h (Nat.not_lt_zero _)
theorem Upto.next {from_ to_:α→Nat} {es:Nat→List α} {s i:Nat} {st:List (Fd α)} (h:Upto from_ to_ es s i st) {x:Fd α} (hx:st[i]? =some x):Upto from_ to_ es s (i+1) (proc to_ es st x):=by
 obtain⟨h1,h2⟩:=Fds.fold (es x.v) h.fds hx (h.most x hx) (fun e he=>he)
 obtain⟨r,hr⟩:=fold_pre to_ x.lv (es x.v) st
 have hil:=(List.getElem?_eq_some_iff.1 hx).1
 have hx':(proc to_ es st x)[i]? =some x:=by unfold proc;rw[hr,List.getElem?_append_left hil];exact hx
 refine⟨h1,?_,?_⟩
 ·intro y hy z hz
  have h3:=h1.up i x y hx' hy
  have h4:=h2 z hz
  omega
 ·intro j y hj hy e he
  rcases Nat.lt_or_ge j i with hji|hji
  ·unfold proc at hy ⊢
   rw[hr,List.getElem?_append_left (by omega)] at hy
   obtain⟨k,z,hk,hv,hl⟩:=h.seen j y hji hy e he
   exact⟨k,z,by rw[hr,List.getElem?_append_left (List.getElem?_eq_some_iff.1 hk).1];exact hk,hv,hl⟩
  ·have hji':j=i:=by omega
   subst hji'
   rw[hx'] at hy
   injection hy with hy
   subst hy
   obtain⟨k,z,hk,hv⟩:=mem_nodes.1 (fold_mem to_ x.lv (es x.v) st he)
   exact⟨k,z,hk,hv,h2 z (List.mem_of_getElem? hk)⟩
theorem bfs_done {from_ to_:α→Nat} {es:Nat→List α} {s N:Nat} (hN: ∀ (u:Nat) (e:α),e∈es u→to_ e<N) (hs:s<N) (n:Nat): ∀ (i:Nat) (st:List (Fd α)),Upto from_ to_ es s i st→N≤i+n→Upto from_ to_ es s (bfs to_ es n i st).length (bfs to_ es n i st):=by
 have hlen: ∀ (st:List (Fd α)),Fds from_ to_ es s st→st.length≤N:=by
  intro st h
  have:(nodes st).length≤N:=by
   refine pigeonN N _ h.nodup ?_
   intro v hv
   obtain⟨j,x,hj,rfl⟩:=mem_nodes.1 hv
   cases j with
   |zero=>
    obtain⟨y,r,hr,h1,_⟩:=h.head
    rw[hr] at hj
    injection hj with hj
    rw[← hj,h1]
    exact hs
   |succ j=>
    obtain⟨h1,k,y,_,_,h2,_⟩:=h.by_ok j x hj
    rw[← h1]
    exact hN _ _ h2
  unfold nodes at this
  rw[List.length_map] at this
  exact this
 induction n with
 |zero=>
  intro i st h hi
  have hl:=hlen st h.fds
  show Upto from_ to_ es s st.length st
  exact⟨h.fds,fun x hx=>by have:=(List.getElem?_eq_some_iff.1 hx).1;omega,fun j x hj hx=>h.seen j x (by omega) hx⟩
 |succ n ih=>
  intro i st h hi
  unfold bfs
  cases hx:st[i]? with
  |none=>
   have hl:=List.getElem?_eq_none_iff.1 hx
   show Upto from_ to_ es s st.length st
   exact⟨h.fds,fun x hx=>by have:=(List.getElem?_eq_some_iff.1 hx).1;omega,fun j x hj hx=>h.seen j x (by omega) hx⟩
  |some x=>exact ih (i+1) _ (h.next hx) (by omega)
end
end Go.Proofs.Ytkcpanpdipmmmaa.H
namespace Go.Proofs.Ytkcpanpdipmmmaa.H
section
variable {α:Type}
def fnd (st:List (Fd α)) (v:Nat):Option (Fd α):=st.find? fun x=>x.v == v
theorem fnd_some {st:List (Fd α)} {v:Nat} {x:Fd α} (h:fnd st v=some x):x∈st∧x.v=v:=by
 have h1:=List.find?_some h
 exact⟨List.mem_of_find?_eq_some h,by simpa using h1⟩
theorem fnd_none {st:List (Fd α)} {v:Nat} :fnd st v=none↔v ∉ nodes st:=by
 unfold fnd nodes
 rw[List.find?_eq_none]
 constructor
 ·intro h hm
  obtain⟨x,hx,rfl⟩:=List.mem_map.1 hm
  exact h x hx (by simp)
 ·intro h x hx e
  exact h (List.mem_map.2 ⟨x,hx,by simpa using e⟩)
theorem nodup_inj {st:List (Fd α)} (h:(nodes st).Nodup) {x y:Fd α} (hx:x∈st) (hy:y∈st) (e:x.v=y.v):x=y:=by
 induction st with
 |nil=>cases hx
 |cons z st ih=>
  have h':z.v ∉ nodes st∧(nodes st).Nodup:=List.nodup_cons.1 h
  rcases List.mem_cons.1 hx with h1|h1<;>rcases List.mem_cons.1 hy with h2|h2
  ·rw[h1,h2]
  ·exact(h'.1 (List.mem_map.2 ⟨y,h2,by rw[← e,h1]⟩)).elim
  ·exact(h'.1 (List.mem_map.2 ⟨x,h1,by rw[e,h2]⟩)).elim
  ·exact ih h'.2 h1 h2
theorem fnd_of {st:List (Fd α)} (h:(nodes st).Nodup) {x:Fd α} (hx:x∈st):fnd st x.v=some x:=by
 cases hf:fnd st x.v with
 |none=>exact absurd (List.mem_map.2 ⟨x,hx,rfl⟩) (fnd_none.1 hf)
 |some y=>
  obtain⟨h1,h2⟩:=fnd_some hf
  rw[nodup_inj h h1 hx h2]
theorem nodes_app (st r:List (Fd α)):nodes (st ++ r)=nodes st ++ nodes r:=List.map_append
def backL (fr:α→Nat) (st:List (Fd α)) (s:Nat):Nat→Nat→List α
 |0,_=>[]
 |k+1,v=>if v=s then [] else match fnd st v with
  |none=>[]
  |some x=>x.by_::backL fr st s k (fr x.by_)
def Leads (to_:α→Nat) (es:Nat→List α):Nat→List α→Nat→Prop
 |u,[],t=>u=t
 |u,e::L,t=>e∈es u∧Leads to_ es (to_ e) L t
theorem Leads.snoc {to_:α→Nat} {es:Nat→List α} {L:List α} {e:α} : ∀ {u v:Nat},Leads to_ es u L v→e∈es v→Leads to_ es u (L ++ [e]) (to_ e):=by
 induction L with
 |nil=>intro u v h he;cases h;exact⟨he,rfl⟩
 |cons f L ih=>intro u v h he;exact⟨h.1,ih h.2 he⟩
theorem Fds.mem_lv {fr to_:α→Nat} {es:Nat→List α} {s:Nat} {st:List (Fd α)} (h:Fds fr to_ es s st) {x:Fd α} (hx:x∈st):
  (x.v=s∧x.lv=0)∨(x.v≠s∧to_ x.by_=x.v∧ ∃ y,y∈st∧x.by_∈es y.v∧x.lv=y.lv+1):=by
 obtain⟨j,hj⟩:=List.getElem?_of_mem hx
 obtain⟨z,r,hr,h1,h2⟩:=h.head
 have hz:z∈st:=by rw[hr];exact List.mem_cons_self
 cases j with
 |zero=>
  rw[hr] at hj
  injection hj with hj
  rw[← hj]
  exact .inl ⟨h1,h2⟩
 |succ j=>
  obtain⟨h3,k,y,_,hy,h4,h5⟩:=h.by_ok j x hj
  refine .inr ⟨?_,h3,y,List.mem_of_getElem? hy,h4,h5⟩
  intro e
  have:=nodup_inj h.nodup hx hz (by rw[e,h1])
  rw[this,h2] at h5
  omega
theorem lv_lt {fr to_:α→Nat} {es:Nat→List α} {s:Nat} {st:List (Fd α)} (h:Fds fr to_ es s st) {x:Fd α} (hx:x∈st):x.lv<st.length:=by
 obtain⟨z,r,hr,h1,h2⟩:=h.head
 have aux: ∀ (j:Nat) (y:Fd α),st[j]? =some y→y.lv≤j:=by
  intro j
  induction j using Nat.strongRecOn with
  |_ j ih=>
   intro y hy
   cases j with
   |zero=>
    rw[hr] at hy
    injection hy with hy
    rw[← hy,h2]
    exact Nat.le_refl _
   |succ j=>
    obtain⟨_,k,w,hk,hw,_,h5⟩:=h.by_ok j y hy
    have:=ih k (by omega) w hw
    omega
 obtain⟨j,hj⟩:=List.getElem?_of_mem hx
 have:=aux j x hj
 have:=(List.getElem?_eq_some_iff.1 hj).1
 omega
theorem backL_spec {fr to_:α→Nat} {es:Nat→List α} {s:Nat} {st:List (Fd α)} (h:Fds fr to_ es s st) (hes: ∀ u e,e∈es u→fr e=u) (k:Nat): ∀ {x:Fd α},x∈st→x.lv≤k→
  (backL fr st s k x.v).length=x.lv∧Leads to_ es s (backL fr st s k x.v).reverse x.v:=by
 induction k with
 |zero=>
  intro x hx hk
  rcases h.mem_lv hx with ⟨h1,h2⟩|⟨_,_,y,_,_,h5⟩
  ·exact⟨by rw[h2];rfl,h1.symm⟩
  ·omega
 |succ k ih=>
  intro x hx hk
  unfold backL
  rcases h.mem_lv hx with ⟨h1,h2⟩|⟨h1,h3,y,hy,h4,h5⟩
  ·rw[if_pos h1,h2]
   exact⟨rfl,h1.symm⟩
  ·rw[if_neg h1,fnd_of h.nodup hx]
   show (_::_).length=_∧Leads to_ es s (_::_).reverse _
   rw[hes _ _ h4]
   obtain⟨i1,i2⟩:=ih hy (by omega)
   refine⟨by rw[List.length_cons,i1,h5],?_⟩
   rw[List.reverse_cons, ← h3]
   exact i2.snoc h4
theorem backL_lv {fr to_:α→Nat} {es:Nat→List α} {s:Nat} {st:List (Fd α)} (h:Fds fr to_ es s st) (hes: ∀ u e,e∈es u→fr e=u) (k:Nat): ∀ {x:Fd α},x∈st→ ∀ e,e∈backL fr st s k x.v→
  ∃ y z,y∈st∧z∈st∧y.v=to_ e∧z.v=fr e∧y.lv=z.lv+1∧e∈es z.v:=by
 induction k with
 |zero=>intro x hx e he;cases he
 |succ k ih=>
  intro x hx e he
  unfold backL at he
  rcases h.mem_lv hx with ⟨h1,h2⟩|⟨h1,h3,y,hy,h4,h5⟩
  ·rw[if_pos h1] at he;cases he
  ·rw[if_neg h1,fnd_of h.nodup hx] at he
   rcases List.mem_cons.1 he with rfl|he
   ·exact⟨x,y,hx,hy,h3.symm,(hes _ _ h4).symm,h5,h4⟩
   ·rw[hes _ _ h4] at he
    exact ih hy e he
def dOf (n:Nat) (st:List (Fd α)):List Int:=(List.range n).map fun v=>match fnd st v with
 |some x=>(x.lv:Int)
 |none=> -1
def bOf (z:α) (n:Nat) (st:List (Fd α)):List α:=(List.range n).map fun v=>match fnd st v with
 |some x=>x.by_
 |none=>z
theorem dOf_len (n:Nat) (st:List (Fd α)):(dOf n st).length=n:=by simp[dOf]
theorem bOf_len (z:α) (n:Nat) (st:List (Fd α)):(bOf z n st).length=n:=by simp[bOf]
theorem dOf_get {n v:Nat} (st:List (Fd α)) (d:Int) (hv:v<n):(dOf n st).getD v d=match fnd st v with
  |some x=>(x.lv:Int)
  |none=> -1:=by
 unfold dOf
 rw[List.getD_eq_getElem?_getD,List.getElem?_map,List.getElem?_range hv]
 rfl
theorem dOf_neg {n v:Nat} (st:List (Fd α)) (d:Int) (hv:v<n):(dOf n st).getD v d<0↔v ∉ nodes st:=by
 rw[dOf_get st d hv, ← fnd_none]
 cases fnd st v with
 |none=>simp
 |some x=>simp
theorem dOf_mem {n:Nat} {st:List (Fd α)} (h:(nodes st).Nodup) {x:Fd α} (hx:x∈st) (d:Int) (hv:x.v<n):(dOf n st).getD x.v d=x.lv:=by
 rw[dOf_get st d hv,fnd_of h hx]
theorem set_map_range {β:Type} (n w:Nat) (f:Nat→β) (b:β):((List.range n).map f).set w b=(List.range n).map fun v=>if v=w then b else f v:=by
 apply List.ext_getElem?
 intro i
 rw[List.getElem?_set]
 simp only[List.length_map,List.length_range,List.getElem?_map]
 by_cases e:w=i
 ·subst e
  by_cases hw:w<n
  ·rw[if_pos rfl,if_pos hw,List.getElem?_range hw]
   simp
  ·rw[if_pos rfl,if_neg hw,List.getElem?_eq_none (by simp;omega)]
   rfl
 ·rw[if_neg e]
  by_cases hi:i<n
  ·rw[List.getElem?_range hi]
   simp[Ne.symm e]
  ·rw[List.getElem?_eq_none (by simp;omega)]
   rfl
theorem dOf_snoc (n:Nat) {st:List (Fd α)} {x:Fd α} (h:x.v ∉ nodes st):dOf n (st ++ [x])=(dOf n st).set x.v (x.lv:Int):=by
 unfold dOf
 rw[set_map_range]
 apply List.map_congr_left
 intro v hv
 by_cases e:v=x.v
 ·subst e
  rw[if_pos rfl]
  have h1:=fnd_none.2 h
  unfold fnd at h1 ⊢
  rw[List.find?_append,h1]
  simp
 ·rw[if_neg e]
  unfold fnd
  rw[List.find?_append]
  cases hf:st.find? (fun y=>y.v == v) with
  |some y=>rfl
  |none=>simp[Ne.symm e]
theorem bOf_snoc (z:α) (n:Nat) {st:List (Fd α)} {x:Fd α} (h:x.v ∉ nodes st):bOf z n (st ++ [x])=(bOf z n st).set x.v x.by_:=by
 unfold bOf
 rw[set_map_range]
 apply List.map_congr_left
 intro v hv
 by_cases e:v=x.v
 ·subst e
  rw[if_pos rfl]
  have h1:=fnd_none.2 h
  unfold fnd at h1 ⊢
  rw[List.find?_append,h1]
  simp
 ·rw[if_neg e]
  unfold fnd
  rw[List.find?_append]
  cases hf:st.find? (fun y=>y.v == v) with
  |some y=>rfl
  |none=>simp[Ne.symm e]
theorem dOf_one (n s:Nat) (z:α):dOf n [⟨s,z,0⟩]=(List.replicate n (-1:Int)).set s 0:=by
 have h1:(List.replicate n (-1:Int))=dOf n ([]:List (Fd α)):=by
  unfold dOf
  apply List.ext_getElem (by simp)
  intro i h1 h2
  simp[fnd]
 rw[h1,show ([⟨s,z,0⟩]:List (Fd α))=[] ++ [⟨s,z,0⟩] from rfl,dOf_snoc n (by simp[nodes])]
 rfl
theorem bOf_one (n s:Nat) (z:α):bOf z n [⟨s,z,0⟩]=List.replicate n z:=by
 unfold bOf
 apply List.ext_getElem (by simp)
 intro i h1 h2
 simp only[List.getElem_map,List.getElem_range,List.getElem_replicate]
 unfold fnd
 rw[List.find?_cons]
 cases (s == i)<;>rfl
def bfsN (to_:α→Nat) (es:Nat→List α) (z:α) (n s:Nat):List (Fd α):=bfs to_ es n 0 [⟨s,z,0⟩]
theorem bfsN_upto {fr to_:α→Nat} {es:Nat→List α} {z:α} {n s:Nat} (hN: ∀ (u:Nat) (e:α),e∈es u→to_ e<n) (hs:s<n):Upto fr to_ es s (bfsN to_ es z n s).length (bfsN to_ es z n s):=
 bfs_done hN hs n 0 _ (upto_start fr to_ es s z) (by omega)
theorem bfsN_closed {to_:α→Nat} {es:Nat→List α} {z:α} {n s:Nat} (hN: ∀ (u:Nat) (e:α),e∈es u→to_ e<n) (hs:s<n) {x:Fd α} (hx:x∈bfsN to_ es z n s) {e:α} (he:e∈es x.v):
  ∃ y,y∈bfsN to_ es z n s∧y.v=to_ e∧y.lv≤x.lv+1:=by
 obtain⟨j,hj⟩:=List.getElem?_of_mem hx
 obtain⟨k,y,hk,h1,h2⟩:=(bfsN_upto (fr:=fun _=>0) (z:=z) hN hs).seen j x (List.getElem?_eq_some_iff.1 hj).1 hj e he
 exact⟨y,List.mem_of_getElem? hk,h1,h2⟩
theorem fds_lt {fr to_:α→Nat} {es:Nat→List α} {n s:Nat} {st:List (Fd α)} (h:Fds fr to_ es s st) (hN: ∀ (u:Nat) (e:α),e∈es u→to_ e<n) (hs:s<n): ∀ v,v∈nodes st→v<n:=by
 intro v hv
 obtain⟨x,hx,rfl⟩:=List.mem_map.1 hv
 rcases h.mem_lv hx with ⟨h1,_⟩|⟨_,h3,y,_,h4,_⟩
 ·rw[h1];exact hs
 ·rw[← h3];exact hN _ _ h4
theorem fds_len {fr to_:α→Nat} {es:Nat→List α} {n s:Nat} {st:List (Fd α)} (h:Fds fr to_ es s st) (hN: ∀ (u:Nat) (e:α),e∈es u→to_ e<n) (hs:s<n):st.length≤n:=by
 have:=pigeonN n (nodes st) h.nodup (fds_lt h hN hs)
 unfold nodes at this
 rwa [List.length_map] at this
end
end Go.Proofs.Ytkcpanpdipmmmaa.H
namespace Go.Proofs.Ytkcpanpdipmmmaa.H
open Go.RowKit Go.Proofs.YtkcpanpdipmmmaaW.PrintWords Go.Proofs.YtkcpanpdipmmmaaW.PrintLast Go.Proofs.YtkcpanpdipmmmaaW.PrintMore Go.Proofs.Ytkcpanpdipmmmaa.P
def IsI (w:World) (g:Nat) (D:List Int):Prop:=w.heap[g]? =some (.cells (nums .i64 D).toArray 3 (0,0))
def stC (B:List S38):List Value:=B.flatMap fun s=>[.int .i64 s.f0, .bool s.f1]
def IsS (w:World) (g:Nat) (B:List S38):Prop:=w.heap[g]? =some (.cells (stC B).toArray 38 (0,0))
theorem stC_len (B:List S38):(stC B).length=2 * B.length:=by
 induction B with
 |nil=>rfl
 |cons s B ih=>show ([_,_] ++ stC B).length=_;rw[List.length_append,ih,List.length_cons];simp;omega
theorem stC_cons (s:S38) (B:List S38):stC (s::B)= .int .i64 s.f0:: .bool s.f1::stC B:=rfl
theorem stC_get (z:S38): ∀ (B:List S38) (u:Nat),u<B.length→(stC B)[u * 2]? =some (.int .i64 (B.getD u z).f0)∧(stC B)[u * 2+1]? =some (.bool (B.getD u z).f1)
 |[],u,h=>by simp at h
 |s::B,0,_=>⟨rfl,rfl⟩
 |s::B,u+1,h=>by
  have:=stC_get z B u (by simpa using h)
  rw[stC_cons,show (u+1) * 2=(u * 2+1)+1 by omega,List.getElem?_cons_succ,List.getElem?_cons_succ,List.getElem?_cons_succ,List.getElem?_cons_succ,List.getD_cons_succ]
  exact this
theorem stC_set: ∀ (B:List S38) (u:Nat) (s:S38),((stC B).set (u * 2) (.int .i64 s.f0)).set (u * 2+1) (.bool s.f1)=stC (B.set u s)
 |[],u,s=>rfl
 |x::B,0,s=>rfl
 |x::B,u+1,s=>by
  rw[stC_cons,show (u+1) * 2=(u * 2+1)+1 by omega,List.set_cons_succ,List.set_cons_succ,List.set_cons_succ,List.set_cons_succ,stC_set B u s]
  rfl
section
variable {w w1:World} {g:Nat} {D:List Int} {B:List S38}
theorem IsI.lt (h:IsI w g D):g<w.heap.size:=blk_lt h
theorem IsS.lt (h:IsS w g B):g<w.heap.size:=blk_lt h
theorem IsI.same (h:IsI w g D) (e:w1.heap[g]? =w.heap[g]?):IsI w1 g D:=e.trans h
theorem IsS.same (h:IsS w g B) (e:w1.heap[g]? =w.heap[g]?):IsS w1 g B:=e.trans h
theorem IsI.below (h:IsI w g D) (hb:Below w.heap.size w w1):IsI w1 g D:=h.same (hb.block g h.lt)
theorem IsS.below (h:IsS w g B) (hb:Below w.heap.size w w1):IsS w1 g B:=h.same (hb.block g h.lt)
theorem IsI.kept {S:Nat→Prop} (h:IsI w g D) (hk:Ks S w w1) (hs: ¬ S g):IsI w1 g D:=hk.blk h hs
theorem IsS.kept {S:Nat→Prop} (h:IsS w g B) (hk:Ks S w w1) (hs: ¬ S g):IsS w1 g B:=hk.blk h hs
theorem IsI.far (h:IsI w g D) {p:Addr} (hp:g≠p.block) (u:Value):IsI (w.setCell p u) g D:=blk_far h hp u
theorem IsS.far (h:IsS w g B) {p:Addr} (hp:g≠p.block) (u:Value):IsS (w.setCell p u) g B:=blk_far h hp u
theorem IsI.cell (h:IsI w g D) {j:Nat} (hj:j<D.length):w.cell? ⟨g,j,none⟩=some (.int .i64 (D.getD j 0)):=(blk_cell h j).trans (nums_get D j hj)
theorem IsI.free (h:IsI w g D) (j:Nat):w.frozen? ⟨g,j,none⟩=false:=blk_frozen h j
theorem IsS.free (h:IsS w g B) (j:Nat):w.frozen? ⟨g,j,none⟩=false:=blk_frozen h j
theorem IsS.cell (h:IsS w g B) (z:S38) {j:Nat} (hj:j<B.length):w.cell? ⟨g,j * 2,none⟩=some (.int .i64 (B.getD j z).f0)∧w.cell? ⟨g,j * 2+1,none⟩=some (.bool (B.getD j z).f1):=by
 obtain⟨h1,h2⟩:=stC_get z B j hj
 exact⟨(blk_cell h _).trans (by simpa using h1),(blk_cell h _).trans (by simpa using h2)⟩
theorem IsI.put (h:IsI w g D) (j:Nat) (x:Int):IsI (w.setCell ⟨g,j,none⟩ (.int .i64 x)) g (D.set j x):=by
 refine(blk_set h j _).trans ?_
 simp[nums,List.map_set]
theorem IsS.put (h:IsS w g B) (j:Nat) (s:S38):IsS ((w.setCell ⟨g,j * 2,none⟩ (.int .i64 s.f0)).setCell ⟨g,j * 2+1,none⟩ (.bool s.f1)) g (B.set j s):=by
 refine(blk_set (blk_set h (j * 2) _) (j * 2+1) _).trans ?_
 rw[← stC_set]
 simp
theorem IsI.R (h:IsI w g D) (hl:D.length≤9223372036854775807) {base:Nat} (hb:base≤g) {ok:Nat→Prop} (hok:ok g):Kd.R (Kd.int .i64) 3 w base ok (.slice (some ⟨g,0,none⟩) D.length D.length) D:=by
 refine Kd.R_of_own (enc:=Value.int .i64) ?_ (fun k hk=> ?_)
 ·refine⟨by simp[encs], .inr ⟨g,D.length,_,rfl,hb,h,Nat.le_refl _,by simp only[maxLen];omega,by simp[nums],?_⟩⟩
  simp only[nums,encs,Nat.mul_one]
  exact List.take_of_length_le (by simp)
 ·have:g=k:=by simpa [Value.ownBlock] using hk
  subst this;exact hok
theorem IsS.R (h:IsS w g B) (hl:B.length≤9223372036854775807) {base:Nat} (hb:base≤g) {ok:Nat→Prop} (hok:ok g):Kd.R k38 38 w base ok (.slice (some ⟨g,0,none⟩) B.length B.length) B:=by
 refine⟨fun k hk=> ?_,stC B,⟨?_, .inr ⟨g,B.length,_,rfl,hb,h,Nat.le_refl _,by simp only[maxLen];omega,?_,?_⟩⟩,?_,fun j p hj=> ?_⟩
 ·have:g=k:=by simpa [Value.ownBlock] using hk
  subst this;exact hok
 ·rw[stC_len];show 2 * B.length=B.length * 2;omega
 ·show (stC B).toArray.size=B.length * 2
  rw[List.size_toArray,stC_len];omega
 ·show (stC B).toArray.toList.take (B.length * 2)=stC B
  rw[List.take_of_length_le (by simp[stC_len];omega)]
 ·rw[stC_len];show 2 * B.length=B.length * 2;omega
 ·obtain⟨hlt,hp⟩:=List.getElem?_eq_some_iff.1 hj
  obtain⟨h1,h2⟩:=stC_get p B j hlt
  have hg:B.getD j p=p:=by rw[List.getD_eq_getElem?_getD,hj];rfl
  rw[hg] at h1 h2
  have e:((stC B).drop (j * 2)).take 2=[.int .i64 p.f0, .bool p.f1]:=by
   apply List.ext_getElem?
   intro m
   rw[List.getElem?_take,List.getElem?_drop]
   match m with
   |0=>rw[if_pos (by omega),Nat.add_zero,h1];rfl
   |1=>rw[if_pos (by omega),h2];rfl
   |m+2=>rw[if_neg (by omega)];rfl
  show Kd.M k38 w base _ p (((stC B).drop (j * 2)).take 2)
  rw[e]
  exact k38_mkM _ _ _ p
end
end Go.Proofs.Ytkcpanpdipmmmaa.H
namespace Go.Proofs.Ytkcpanpdipmmmaa.Q
open Go.RowKit Go.Proofs.YtkcpanpdipmmmaaW.PrintWords Go.Proofs.YtkcpanpdipmmmaaW.PrintLast Go.Proofs.YtkcpanpdipmmmaaW.PrintMore
theorem Ev.pos {α:Type} {c:Prop} [Decidable c] {f g:Nat→Option α} {r:α} (h:c) (e:Ev f r):Ev (fun k=>if c then f k else g k) r:=
 Ev.congr (fun _=>if_pos h) e
theorem Ev.neg {α:Type} {c:Prop} [Decidable c] {f g:Nat→Option α} {r:α} (h: ¬ c) (e:Ev g r):Ev (fun k=>if c then f k else g k) r:=
 Ev.congr (fun _=>if_neg h) e
theorem Ev.ite {α:Type} {c:Prop} [Decidable c] {f g:Nat→Option α} {r:α} (e:c→Ev f r) (e': ¬ c→Ev g r):Ev (fun k=>if c then f k else g k) r:=by
 by_cases h:c
 ·exact Ev.pos h (e h)
 ·exact Ev.neg h (e' h)
theorem Ev.succ {α:Type} {g:Nat→Option α} {r:α} (e:Ev (fun k=>g (k+1)) r):Ev g r:=Ev.step (fun _=>rfl) e
theorem Ev.let_ {α β:Type} {a:α} {f:Nat→α→Option β} {r:β} (e:Ev (fun k=>f k a) r):Ev (fun k=>(some a).bind (f k)) r:=e
theorem Ev.call {α β:Type} {g:Option α} {a:α} {f:Nat→α→Option β} {r:β} (h:g=some a) (e:Ev (fun k=>f k a) r):Ev (fun k=>g.bind (f k)) r:=by
 subst h;exact e
theorem Ev.done {α:Type} {a r:α} (h:a=r):Ev (fun _=>some a) r:=h▸Ev.now a
theorem Ev.eq {α:Type} {g:Nat→Option α} {a r:α} (h:Ev g a) (e:a=r):Ev g r:=e▸h
theorem wrap_id {x:Int} (h0: -9223372036854775808≤x) (h1:x≤9223372036854775807):wrap64 x=x:=by
 unfold wrap64
 omega
theorem wrap_succ {i n:Nat} (h:i<n) (hn:n≤9223372036854775807):wrap64 ((i:Int)+1)=((i+1:Nat):Int):=by
 unfold wrap64
 omega
theorem drop_getD {α:Type} (l:List α) (i:Nat) (d:α) (h:i<l.length):l.drop i=l.getD i d::l.drop (i+1):=by
 rw[List.drop_eq_getElem_cons h,List.getD_eq_getElem?_getD,List.getElem?_eq_getElem h]
 rfl
theorem rd_nat (xs:List Int) (i:Nat):rd xs (i:Int)=xs.getD i 0:=by
 unfold rd
 rw[Int.toNat_natCast]
theorem getD_mem {α:Type} {l:List α} {i:Nat} {d:α} (h:i<l.length):l.getD i d∈l:=by
 rw[List.getD_eq_getElem?_getD,List.getElem?_eq_getElem h]
 exact List.getElem_mem h
theorem getD_set {α:Type} (l:List α) (i j:Nat) (a d:α) (h:i<l.length):(l.set i a).getD j d=if i=j then a else l.getD j d:=by
 rw[List.getD_eq_getElem?_getD,List.getD_eq_getElem?_getD,List.getElem?_set]
 by_cases e:i=j
 ·subst e;simp[h]
 ·simp[e]
theorem rd_set (l:List Int) (i j a:Int) (h0:0≤i) (h1:i<l.length) (h2:0≤j):rd (l.set i.toNat a) j=if i=j then a else rd l j:=by
 unfold rd
 rw[getD_set _ _ _ _ _ (by omega)]
 by_cases e:i=j
 ·rw[if_pos e,if_pos (by omega)]
 ·rw[if_neg e,if_neg (by omega)]
end Go.Proofs.Ytkcpanpdipmmmaa.Q
namespace Go.Proofs.Ytkcpanpdipmmmaa.H
open Go.RowKit Go.Proofs.YtkcpanpdipmmmaaW.PrintWords Go.Proofs.YtkcpanpdipmmmaaW.PrintLast Go.Proofs.YtkcpanpdipmmmaaW.PrintMore Go.Proofs.Ytkcpanpdipmmmaa.P Go.Proofs.Ytkcpanpdipmmmaa.Q
theorem stFrom_in {l:List S74} {F:List Int} {n:Nat} (hr:Right l F n) {s:S38} (hs:StepOf l s):0≤stFrom l s∧stFrom l s<n:=by
 obtain⟨i,h1,h2⟩:=hs
 have:=hr.ends i h1
 unfold stFrom
 rw[h2]
 split
 ·exact this.2
 ·exact this.1
end Go.Proofs.Ytkcpanpdipmmmaa.H
namespace Go.Proofs.Ytkcpanpdipmmmaa.Q
open Go.RowKit Go.Proofs.YtkcpanpdipmmmaaW.PrintWords Go.Proofs.YtkcpanpdipmmmaaW.PrintLast Go.Proofs.YtkcpanpdipmmmaaW.PrintMore Go.Proofs.Ytkcpanpdipmmmaa.P
def arcErr (n:Int) (a:S74):Int:=
 if a.f0<0∨a.f1<0∨a.f2<0∨a.f3<0∨n≤a.f0∨n≤a.f1 then 51 else if 1048576<a.f2∨1048576<a.f3 then 2 else 0
def arcsErr (n:Int):List S74→Int
 |[]=>0
 |a::l=>if arcErr n a=0 then arcsErr n l else arcErr n a
def netErr (n:Int) (l:List S74):Int:=if n<1 then 51 else if n>50 then 2 else if (l.length:Int)>200 then 2 else arcsErr n l
structure ArcOk (n:Int) (a:S74):Prop where
 f0:0≤a.f0
 f1:0≤a.f1
 f2:0≤a.f2
 f3:0≤a.f3
 h0:a.f0<n
 h1:a.f1<n
 h2:a.f2≤1048576
 h3:a.f3≤1048576
structure NetOk (n:Int) (l:List S74):Prop where
 lo:1≤n
 hi:n≤50
 len:l.length≤200
 arcs: ∀ a∈l,ArcOk n a
theorem arcErr_ok {n:Int} {a:S74} (h:arcErr n a=0):ArcOk n a:=by
 unfold arcErr at h
 split at h
 ·omega
 ·split at h
  ·omega
  ·constructor<;>omega
theorem arcsErr_ok {n:Int} : ∀ {l:List S74},arcsErr n l=0→ ∀ a∈l,ArcOk n a
 |[],_,a,ha=>by cases ha
 |b::l,h,a,ha=>by
  unfold arcsErr at h
  split at h
  ·rename_i hb
   rcases List.mem_cons.1 ha with rfl|ha
   ·exact arcErr_ok hb
   ·exact arcsErr_ok h a ha
  ·exact absurd h (by assumption)
theorem netErr_ok {n:Int} {l:List S74} (h:netErr n l=0):NetOk n l:=by
 unfold netErr at h
 split at h
 ·omega
 ·split at h
  ·omega
  ·split at h
   ·omega
   ·exact⟨by omega,by omega,by omega,arcsErr_ok h⟩
theorem arcOk_err {n:Int} {a:S74} (h:ArcOk n a):arcErr n a=0:=by
 have:=h.f0;have:=h.f1;have:=h.f2;have:=h.f3;have:=h.h0;have:=h.h1;have:=h.h2;have:=h.h3
 unfold arcErr
 rw[if_neg (by omega),if_neg (by omega)]
theorem arcsOk_err {n:Int} : ∀ {l:List S74},(∀ a∈l,ArcOk n a)→arcsErr n l=0
 |[],_=>rfl
 |b::l,h=>by
  unfold arcsErr
  rw[if_pos (arcOk_err (h b (List.mem_cons_self ..)))]
  exact arcsOk_err fun a ha=>h a (List.mem_cons_of_mem _ ha)
theorem netOk_err {n:Int} {l:List S74} (h:NetOk n l):netErr n l=0:=by
 have:=h.lo;have:=h.hi;have:=h.len
 unfold netErr
 rw[if_neg (by omega),if_neg (by omega),if_neg (by omega),arcsOk_err h.arcs]
theorem NetOk.at_ {n:Int} {l:List S74} (h:NetOk n l) {i:Int} (h0:0≤i) (h1:i<l.length):ArcOk n (rd_T74 l i):=h.arcs _ (getD_mem (by omega))
theorem nodes_eq (n:Int):netfmt_nodes.f n=some (if n<1 then 51 else if n>50 then 2 else 0):=by
 unfold netfmt_nodes.f
 split
 ·rfl
 ·split<;>rfl
theorem arc_ev (n:Int) (a:S74):Ev (fun k=>netfmt_arc.f k n a.f0 a.f1 a.f2 a.f3) (arcErr n a):=by
 unfold netfmt_arc.f arcErr
 refine Ev.ite (fun h=> ?_) (fun h=> ?_)
 ·refine Ev.succ ?_;simp only[netfmt_arc.j0]
  repeat(first|exact Ev.now _|with_reducible refine Ev.pos (by first|assumption|omega) ?_|with_reducible refine Ev.neg (by first|assumption|omega) ?_|with_reducible refine Ev.let_ ?_)
  exact Ev.done (by unfold mn at h;rw[if_pos (by omega)])
 ·refine Ev.succ ?_;simp only[netfmt_arc.j0]
  unfold mn at h
  unfold mx
  refine Ev.ite (fun g=> ?_) (fun g=> ?_)
  ·have g:=of_decide_eq_true g
   exact Ev.done (by rw[if_pos (by omega)])
  ·have g:=of_decide_eq_false (Bool.eq_false_iff.2 g)
   refine Ev.ite (fun g1=> ?_) (fun g1=> ?_)
   ·exact Ev.done (by rw[if_neg (by omega),if_pos (by omega)])
   ·refine Ev.ite (fun g2=> ?_) (fun g2=> ?_)
    ·exact Ev.done (by rw[if_neg (by omega),if_pos (by omega)])
    ·exact Ev.done (by rw[if_neg (by omega),if_neg (by omega)])
theorem check_l0 (l:List S74) (n:Int) (b:Bool) (hl:l.length≤9223372036854775807) (d:Nat): ∀ i:Nat,i+d=l.length→
  Ev (fun k=>netfmt_Check.l0 k l (l.length:Int) (i:Int) n b l) (arcsErr n (l.drop i)):=by
 induction d with
 |zero=>
  intro i hi
  refine Ev.succ ?_;simp only[netfmt_Check.l0]
  repeat(first|exact Ev.now _|with_reducible refine Ev.pos (by first|assumption|omega) ?_|with_reducible refine Ev.neg (by first|assumption|omega) ?_|with_reducible refine Ev.let_ ?_)
  rw[List.drop_of_length_le (by omega)]
  exact Ev.now _
 |succ d ih=>
  intro i hi
  refine Ev.succ ?_;simp only[netfmt_Check.l0]
  repeat(first|exact Ev.now _|with_reducible refine Ev.pos (by first|assumption|omega) ?_|with_reducible refine Ev.neg (by first|assumption|omega) ?_|with_reducible refine Ev.let_ ?_)
  refine Ev.bind (arc_ev n (rd_T74 l i)) ?_
  rw[drop_getD l i z74 (by omega)]
  have hr:rd_T74 l (i:Int)=l.getD i z74:=by unfold rd_T74;rw[Int.toNat_natCast]
  rw[hr]
  unfold arcsErr
  refine Ev.ite (fun h=> ?_) (fun h=> ?_)
  ·rw[if_pos h,wrap_succ (n:=l.length) (by omega) hl]
   exact ih (i+1) (by omega)
  ·rw[if_neg h]
   exact Ev.now _
theorem check_ev (n:Int) (b:Bool) (l:List S74):Ev (fun k=>netfmt_Check.f k n b l) (netErr n l):=by
 unfold netfmt_Check.f netErr
 refine Ev.call (nodes_eq n) ?_
 by_cases h:n<1
 ·rw[if_pos h,if_pos h]
  repeat(first|exact Ev.now _|with_reducible refine Ev.pos (by first|assumption|omega) ?_|with_reducible refine Ev.neg (by first|assumption|omega) ?_|with_reducible refine Ev.let_ ?_)
 ·rw[if_neg h,if_neg h]
  by_cases h2:n>50
  ·rw[if_pos h2,if_pos h2]
   repeat(first|exact Ev.now _|with_reducible refine Ev.pos (by first|assumption|omega) ?_|with_reducible refine Ev.neg (by first|assumption|omega) ?_|with_reducible refine Ev.let_ ?_)
  ·rw[if_neg h2,if_neg h2]
   repeat(first|exact Ev.now _|with_reducible refine Ev.pos (by first|assumption|omega) ?_|with_reducible refine Ev.neg (by first|assumption|omega) ?_|with_reducible refine Ev.let_ ?_)
   refine Ev.ite (fun g=> ?_) (fun g=> ?_)
   ·rw[if_pos g]
    exact Ev.now _
   ·rw[if_neg g]
    exact check_l0 l n b (by omega) l.length 0 (by omega)
end Go.Proofs.Ytkcpanpdipmmmaa.Q
namespace Go.Proofs.Ytkcpanpdipmmmaa.Q
open Go.RowKit Go.Proofs.YtkcpanpdipmmmaaW.PrintWords Go.Proofs.YtkcpanpdipmmmaaW.PrintLast Go.Proofs.YtkcpanpdipmmmaaW.PrintMore Go.Proofs.Ytkcpanpdipmmmaa.P
def flowB:List S74→List Int→Bool
 |[],[]=>true
 |a::l,x::f=>if x<0 then false else if x>a.f2 then false else flowB l f
 |_,_=>false
def askErr (n:Int) (l:List S74) (f:List Int):Int:=if netErr n l=0 then(if flowB l f=true then 0 else 71) else netErr n l
structure FlowOk (l:List S74) (f:List Int):Prop where
 len:f.length=l.length
 at_: ∀ i:Nat,i<f.length→0≤rd f i∧rd f i≤(rd_T74 l i).f2
theorem rdArc_nat (l:List S74) (i:Nat):rd_T74 l (i:Int)=l.getD i z74:=by unfold rd_T74;rw[Int.toNat_natCast]
theorem flowB_len: ∀ {l:List S74} {f:List Int},flowB l f=true→f.length=l.length
 |[],[],_=>rfl
 |[],_::_,h=>by simp[flowB] at h
 |_::_,[],h=>by simp[flowB] at h
 |a::l,x::f,h=>by
  unfold flowB at h
  split at h
  ·cases h
  ·split at h
   ·cases h
   ·simp[flowB_len h]
theorem flowB_ok: ∀ {l:List S74} {f:List Int},flowB l f=true→ ∀ i:Nat,i<f.length→0≤f.getD i 0∧f.getD i 0≤(l.getD i z74).f2
 |[],[],_,i,hi=>by simp at hi
 |[],_::_,h,_,_=>by simp[flowB] at h
 |_::_,[],h,_,_=>by simp[flowB] at h
 |a::l,x::f,h,i,hi=>by
  unfold flowB at h
  split at h
  ·cases h
  ·split at h
   ·cases h
   ·cases i with
    |zero=>simp;omega
    |succ i=>simpa using flowB_ok h i (by simpa using hi)
theorem flow_ok {l:List S74} {f:List Int} (h:flowB l f=true):FlowOk l f:=
 ⟨flowB_len h,fun i hi=>by rw[rd_nat,rdArc_nat];exact flowB_ok h i hi⟩
theorem flow_mk: ∀ {l:List S74} {f:List Int},f.length=l.length→(∀ i:Nat,i<f.length→0≤f.getD i 0∧f.getD i 0≤(l.getD i z74).f2)→flowB l f=true
 |[],[],_,_=>rfl
 |[],_::_,h,_=>by simp at h
 |_::_,[],h,_=>by simp at h
 |a::l,x::f,h,hf=>by
  have h0:=hf 0 (by simp)
  simp at h0
  unfold flowB
  rw[if_neg (by omega),if_neg (by omega)]
  exact flow_mk (by simpa using h) (fun i hi=>by simpa using hf (i+1) (by simpa using hi))
theorem FlowOk.b {l:List S74} {f:List Int} (h:FlowOk l f):flowB l f=true:=
 flow_mk h.len fun i hi=>by have:=h.at_ i hi;rwa [rd_nat,rdArc_nat] at this
theorem FlowOk.int {l:List S74} {f:List Int} (h:FlowOk l f) {i:Int} (h0:0≤i) (h1:i<f.length):0≤rd f i∧rd f i≤(rd_T74 l i).f2:=by
 obtain⟨j,rfl⟩:=Int.eq_ofNat_of_zero_le h0
 exact h.at_ j (by omega)
theorem FlowOk.small {n:Int} {l:List S74} {f:List Int} (h:FlowOk l f) (hn:NetOk n l) {i:Int} (h0:0≤i) (h1:i<f.length):0≤rd f i∧rd f i≤1048576:=by
 have h2:=h.int h0 h1
 have h3:=(hn.at_ h0 (by rw[← h.len];exact h1)).h2
 omega
theorem askErr_ok {n:Int} {l:List S74} {f:List Int} (h:askErr n l f=0):NetOk n l∧FlowOk l f:=by
 unfold askErr at h
 split at h
 ·split at h
  ·exact⟨netErr_ok (by assumption),flow_ok (by assumption)⟩
  ·omega
 ·exact absurd h (by assumption)
theorem ask_of {n:Int} {l:List S74} {f:List Int} (h:NetOk n l) (hf:FlowOk l f):askErr n l f=0:=by
 unfold askErr
 rw[if_pos (netOk_err h),if_pos hf.b]
end Go.Proofs.Ytkcpanpdipmmmaa.Q
namespace Go.Proofs.Ytkcpanpdipmmmaa.Q
open Go.RowKit Go.Proofs.YtkcpanpdipmmmaaW.PrintWords Go.Proofs.YtkcpanpdipmmmaaW.PrintLast Go.Proofs.YtkcpanpdipmmmaaW.PrintMore Go.Proofs.Ytkcpanpdipmmmaa.P
def bal:List S74→List Int→Int→Int
 |a::l,x::f,v=>(if a.f0=v then x else 0) - (if a.f1=v then x else 0)+bal l f v
 |_,_,_=>0
theorem bal_cons (a:S74) (l:List S74) (x:Int) (f:List Int) (v:Int):bal (a::l) (x::f) v=(if a.f0=v then x else 0) - (if a.f1=v then x else 0)+bal l f v:=rfl
theorem bal_nil (f:List Int) (v:Int):bal [] f v=0:=by cases f<;>rfl
end Go.Proofs.Ytkcpanpdipmmmaa.Q
namespace Go.Proofs.Ytkcpanpdipmmmaa.H
open Go.RowKit Go.Proofs.YtkcpanpdipmmmaaW.PrintWords Go.Proofs.YtkcpanpdipmmmaaW.PrintLast Go.Proofs.YtkcpanpdipmmmaaW.PrintMore Go.Proofs.Ytkcpanpdipmmmaa.P Go.Proofs.Ytkcpanpdipmmmaa.Q
def goS (F:List Int) (s:S38) (k:Int):List Int:=F.set s.f0.toNat (if s.f1 then F.getD s.f0.toNat 0 - k else F.getD s.f0.toNat 0+k)
def pushW (F:List Int) (k:Int) (L:List S38):List Int:=L.foldl (fun F s=>goS F s k) F
theorem goS_len (F:List Int) (s:S38) (k:Int):(goS F s k).length=F.length:=by simp[goS]
theorem stRoom_in {l:List S74} {F:List Int} {n:Nat} (hr:Right l F n) {s:S38} (hs:StepOf l s):0≤stRoom l F s∧stRoom l F s≤1048576:=by
 obtain⟨i,h1,h2⟩:=hs
 have:=hr.nums i h1
 unfold stRoom
 rw[h2,Int.toNat_natCast]
 split<;>omega
theorem Right.go {l:List S74} {F:List Int} {n:Nat} (hr:Right l F n) {s:S38} (hs:StepOf l s) {k:Int} (h0:0≤k) (hk:k≤stRoom l F s):Right l (goS F s k) n:=by
 obtain⟨i,h1,h2⟩:=hs
 have hi:=hr.nums i h1
 have hl:=hr.len
 refine⟨hr.pos,hr.fifty,hr.arcs,by rw[goS_len];exact hl,hr.ends,fun j hj=> ?_⟩
 have h3:=hr.nums j hj
 unfold stRoom at hk
 rw[h2,Int.toNat_natCast] at hk
 unfold goS
 rw[h2,Int.toNat_natCast]
 by_cases e:i=j
 ·subst e
  rw[getD_set_eq _ _ _ _ (by omega)]
  cases hb:s.f1<;>rw[hb] at hk<;>simp only[Bool.false_eq_true,if_false,if_true] at hk ⊢ <;>omega
 ·rw[getD_set_ne _ _ _ _ _ e]
  exact h3
theorem room_other {l:List S74} {F:List Int} {s s':S38} (hs:StepOf l s) (hs':StepOf l s') (k:Int) (h:s.f0≠s'.f0):stRoom l (goS F s k) s'=stRoom l F s':=by
 obtain⟨i,h1,h2⟩:=hs
 obtain⟨j,h3,h4⟩:=hs'
 unfold stRoom goS
 rw[h2,h4,Int.toNat_natCast,Int.toNat_natCast,getD_set_ne _ _ _ _ _ (fun e=>h (by rw[h2,h4,e]))]
theorem Right.pushW {l:List S74} {n:Nat} {k:Int} (h0:0≤k) (L:List S38): ∀ {F:List Int},Right l F n→(∀ s,s∈L→StepOf l s∧k≤stRoom l F s)→L.Pairwise (fun a b=>a.f0≠b.f0)→Right l (H.pushW F k L) n:=by
 induction L with
 |nil=>intro F hr _ _;exact hr
 |cons s L ih=>
  intro F hr h hp
  rw[List.pairwise_cons] at hp
  have hs:=h s List.mem_cons_self
  refine ih (hr.go hs.1 h0 hs.2) (fun x hx=> ?_) hp.2
  have hx2:=h x (List.mem_cons_of_mem _ hx)
  exact⟨hx2.1,by rw[room_other hs.1 hx2.1 k (hp.1 x hx)];exact hx2.2⟩
theorem bal_set (l:List S74) (v:Int): ∀ (f:List Int) (i:Nat) (y:Int),f.length=l.length→i<l.length→
  bal l (f.set i y) v=bal l f v+(if (rd_T74 l i).f0=v then y - f.getD i 0 else 0) - (if (rd_T74 l i).f1=v then y - f.getD i 0 else 0):=by
 induction l with
 |nil=>intro f i y h hi;simp at hi
 |cons a l ih=>
  intro f i y h hi
  cases f with
  |nil=>simp at h
  |cons x f=>
   cases i with
   |zero=>
    have e:rd_T74 (a::l) ((0:Nat):Int)=a:=rfl
    rw[e]
    simp only[List.set_cons_zero,List.getD_cons_zero,bal_cons]
    split<;>split<;>omega
   |succ i=>
    have e:rd_T74 (a::l) ((i+1:Nat):Int)=rd_T74 l (i:Int):=by rw[rdArc_nat,rdArc_nat];rfl
    rw[e]
    simp only[List.set_cons_succ,List.getD_cons_succ,bal_cons]
    rw[ih f i y (by simpa using h) (by simpa using hi)]
    omega
theorem bal_go {l:List S74} {f:List Int} (hl:f.length=l.length) {s:S38} (hs:StepOf l s) (k v:Int):
  bal l (goS f s k) v=bal l f v+(if stFrom l s=v then k else 0) - (if stTo l s=v then k else 0):=by
 obtain⟨i,h1,h2⟩:=hs
 unfold goS stFrom stTo eFrom eTo
 rw[h2,Int.toNat_natCast,bal_set l v f _ _ hl h1]
 cases s.f1
 ·simp only[Bool.false_eq_true,if_false]
  split<;>split<;>omega
 ·simp only[if_true]
  split<;>split<;>omega
def Trail (l:List S74):Int→List S38→Int→Prop
 |a,[],b=>a=b
 |a,s::L,b=>StepOf l s∧stFrom l s=a∧Trail l (stTo l s) L b
theorem Trail.of {l:List S74} : ∀ {L:List S38} {a b:Int},Trail l a L b→ ∀ s,s∈L→StepOf l s
 |[],_,_,_,s,hs=>by cases hs
 |x::L,_,_,h,s,hs=>(List.mem_cons.1 hs).elim (fun e=>e▸h.1) (h.2.2.of s)
theorem bal_pushW {l:List S74} (k v:Int): ∀ {L:List S38} {f:List Int} {a b:Int},f.length=l.length→Trail l a L b→
  bal l (pushW f k L) v=bal l f v+(if v=a then k else 0) - (if v=b then k else 0)
 |[],f,a,b,_,h=>by
  have h:a=b:=h
  subst h
  show bal l f v=_
  omega
 |s::L,f,a,b,hl,h=>by
  obtain⟨hs,rfl,ht⟩:=h
  show bal l (pushW (goS f s k) k L) v=_
  rw[bal_pushW k v (by rw[goS_len,hl]) ht,bal_go hl hs]
  have e1:(if v=stTo l s then k else 0)=(if stTo l s=v then k else 0):=by
   by_cases e:stTo l s=v
   ·rw[if_pos e,if_pos e.symm]
   ·rw[if_neg e,if_neg (Ne.symm e)]
  have e2:(if v=stFrom l s then k else 0)=(if stFrom l s=v then k else 0):=by
   by_cases e:stFrom l s=v
   ·rw[if_pos e,if_pos e.symm]
   ·rw[if_neg e,if_neg (Ne.symm e)]
  rw[e1,e2]
  omega
theorem rises_apart {l:List S74} (lv:Int→Int): ∀ {L:List S38} {a b:Int},Trail l a L b→(∀ s,s∈L→lv (stTo l s)=lv (stFrom l s)+1)→
  L.Pairwise (fun x y=>x.f0≠y.f0)∧ ∀ s,s∈L→lv a≤lv (stFrom l s)
 |[],_,_,_,_=>⟨List.Pairwise.nil,fun s hs=>by cases hs⟩
 |x::L,a,b,h,hv=>by
  obtain⟨hs,ha,ht⟩:=h
  have hx:=hv x List.mem_cons_self
  obtain⟨h1,h2⟩:=rises_apart lv ht (fun s hs=>hv s (List.mem_cons_of_mem _ hs))
  refine⟨List.pairwise_cons.2 ⟨fun y hy e=> ?_,h1⟩,fun s hs=> ?_⟩
  ·have h3:=h2 y hy
   have h4:=hv y (List.mem_cons_of_mem _ hy)
   have h5:(stFrom l y=stFrom l x∧stTo l y=stTo l x)∨(stFrom l y=stTo l x∧stTo l y=stFrom l x):=by
    unfold stFrom stTo
    rw[e]
    cases x.f1<;>cases y.f1<;>simp
   rcases h5 with ⟨e1,e2⟩|⟨e1,e2⟩
   ·rw[e1] at h3;omega
   ·rw[e1,e2] at h4;omega
  ·rcases List.mem_cons.1 hs with rfl|hs
   ·rw[ha];exact Int.le_refl _
   ·have:=h2 s hs
    rw[← ha]
    omega
def leastR (l:List S74) (F:List Int):List S38→Int
 |[]=>0
 |[s]=>stRoom l F s
 |s::t::L=>min (stRoom l F s) (leastR l F (t::L))
theorem leastR_le {l:List S74} {F:List Int} : ∀ {L:List S38} {s:S38},s∈L→leastR l F L≤stRoom l F s
 |[],s,h=>by cases h
 |[x],s,h=>by rw[List.mem_singleton.1 h];exact Int.le_refl _
 |x::y::L,s,h=>by
  unfold leastR
  rcases List.mem_cons.1 h with rfl|h
  ·omega
  ·have:=leastR_le (l:=l) (F:=F) h
   omega
theorem leastR_in {l:List S74} {F:List Int} : ∀ {L:List S38},L≠[]→ ∃ s,s∈L∧leastR l F L=stRoom l F s
 |[],h=>absurd rfl h
 |[x],_=>⟨x,List.mem_cons_self,rfl⟩
 |x::y::L,_=>by
  obtain⟨s,h1,h2⟩:=leastR_in (l:=l) (F:=F) (L:=y::L) (by simp)
  unfold leastR
  by_cases h:stRoom l F x≤leastR l F (y::L)
  ·exact⟨x,List.mem_cons_self,by omega⟩
  ·exact⟨s,List.mem_cons_of_mem _ h1,by omega⟩
end Go.Proofs.Ytkcpanpdipmmmaa.H
namespace Go.Proofs.Ytkcpanpdipmmmaa.H
open Go.RowKit Go.Proofs.YtkcpanpdipmmmaaW.PrintWords Go.Proofs.YtkcpanpdipmmmaaW.PrintLast Go.Proofs.YtkcpanpdipmmmaaW.PrintMore Go.Proofs.Ytkcpanpdipmmmaa.P
set_option maxHeartbeats 2000000 in
set_option maxRecDepth 100000 in
theorem go_calls (n0:Int) (a0_1:Bool) (A2:Option Addr) (c2:Nat) (l:List S74) (gF cF:Nat) (F:List Int) (s:S38) (k:Int) (w:World)
  (hF:IsI w gF F) {i:Nat} (hi:i<F.length) (hs:s.f0=i) (hk: -9223372036854775808<k∧k≤9223372036854775807)
  (h1:s.f1=false→ -9223372036854775808≤F.getD i 0+k∧F.getD i 0+k≤9223372036854775807) (h2:s.f1=true→ -9223372036854775808≤F.getD i 0 - k∧F.getD i 0 - k≤9223372036854775807):
  Calls Try.prog 154 #[.agg #[.int .i64 n0, .bool a0_1, .slice A2 l.length c2, .slice (some ⟨gF,0,none⟩) F.length cF], .agg #[.int .i64 s.f0, .bool s.f1], .int .i64 k] w fun e w'=>e= .returned (.tuple #[])∧IsI w' gF (goS F s k)∧Ks (fun b=>b=gF) w w':=by
 have hu115:=Try.underlying115
 have hu38:=Try.underlying38
 obtain⟨x,y⟩:=s
 simp only at hs h1 h2
 subst hs
 have HF:=Aside0.mk hF
 have hg:=hF.lt
 clear hF
 cases y
 ·have hb:=h1 rfl
  have hwr:IntKind.i64.wrap (F.getD i 0+k)=F.getD i 0+k:=IntWalk.i64_in _ (by omega)
  clear h1 h2
  obtain⟨y0,hy0⟩: ∃ y,y=F.getD i 0:=⟨_,rfl⟩
  rw[← hy0] at hwr hb
  have HY:=Aside0.mk hy0
  clear hy0
  go_enter Try.func154,Try.ntmps154
  go_upto_region 1 with (first|((with_reducible refine gate_dst (N:=3) rfl ?_);refine box_event ?hg (N:=3) ?hd (cs:= #[.int .i64 n0, .bool a0_1, .slice A2 l.length c2, .slice (some ⟨gF,0,none⟩) F.length cF]) (t:=115) ?hr ?_;(case hd=>rfl);(case hg=>rfl);(case hr=>first|(go_simp;done)|(go_simp;rfl));intro g3 hg3 w3 hbox hb;have B3:=Aside0.mk hbox;have HB3:=Aside0.mk hb;have G3:Aside0 (w.heap.size≤g3):=⟨Nat.le_of_eq hg3.symm⟩;clear hg3;have m0_:=Aside0.mk (HF.out.below hb);clear HF hb hbox;have HF:=m0_;clear m0_)|((with_reducible refine gate_dst (N:=4) rfl ?_);refine box_event ?hg (N:=4) ?hd (cs:= #[.int .i64 (i:Int), .bool false]) (t:=38) ?hr ?_;(case hd=>rfl);(case hg=>rfl);(case hr=>first|(go_simp;done)|(go_simp;rfl));intro g4 hg4 w4 hbox hb;have B4:=Aside0.mk hbox;have G4:Aside0 (w.heap.size≤g4):=⟨Nat.le_trans HB3.out.size (Nat.le_of_eq hg4.symm)⟩;clear hg4;have HB4:=Aside0.mk (below_step HB3.out hb);have m0_:=Aside0.mk (HF.out.below hb);have m1_:=Aside0.mk (blk_below B3.out hb);clear HF B3 HB3 hb hbox;have HF:=m0_;have B3:=m1_;clear m0_ m1_;have a3:w4.cell? ⟨g3,3,none⟩=some (.slice (some ⟨gF,0,none⟩) F.length cF):=(blk_cell B3.out 3).trans rfl;have b0:w4.cell? ⟨g4,0,none⟩=some (.int .i64 (i:Int)):=(blk_cell B4.out 0).trans rfl;have b1:w4.cell? ⟨g4,1,none⟩=some (.bool false):=(blk_cell B4.out 1).trans rfl)|fail)
  have c0:=HF.out.cell hi
  have f0:=HF.out.free i
  rw[← HY.out] at c0
  go_wp2_with fail
  refine bodyPost_end (results_none rfl _ _ _) rfl ⟨rfl,?_,(Ks.of_below HB4.out (fun b=>b=gF)).set (g:=gF) (fun _=>rfl) i _⟩
  have e:goS F ⟨(i:Int),false⟩ k=F.set i (y0+k):=by unfold goS;simp[HY.out,Int.sub_eq_add_neg]
  rw[e]
  exact HF.out.put i _
 ·have hb:=h2 rfl
  have hwr:IntKind.i64.wrap (F.getD i 0+ -k)=F.getD i 0+ -k:=IntWalk.i64_in _ (by omega)
  have hwn:IntKind.i64.wrap (-k)= -k:=IntWalk.i64_in _ (by omega)
  clear h1 h2
  obtain⟨y0,hy0⟩: ∃ y,y=F.getD i 0:=⟨_,rfl⟩
  rw[← hy0] at hwr hb
  have HY:=Aside0.mk hy0
  clear hy0
  go_enter Try.func154,Try.ntmps154
  go_upto_region 1 with (first|((with_reducible refine gate_dst (N:=3) rfl ?_);refine box_event ?hg (N:=3) ?hd (cs:= #[.int .i64 n0, .bool a0_1, .slice A2 l.length c2, .slice (some ⟨gF,0,none⟩) F.length cF]) (t:=115) ?hr ?_;(case hd=>rfl);(case hg=>rfl);(case hr=>first|(go_simp;done)|(go_simp;rfl));intro g3 hg3 w3 hbox hb;have B3:=Aside0.mk hbox;have HB3:=Aside0.mk hb;have G3:Aside0 (w.heap.size≤g3):=⟨Nat.le_of_eq hg3.symm⟩;clear hg3;have m0_:=Aside0.mk (HF.out.below hb);clear HF hb hbox;have HF:=m0_;clear m0_)|((with_reducible refine gate_dst (N:=4) rfl ?_);refine box_event ?hg (N:=4) ?hd (cs:= #[.int .i64 (i:Int), .bool true]) (t:=38) ?hr ?_;(case hd=>rfl);(case hg=>rfl);(case hr=>first|(go_simp;done)|(go_simp;rfl));intro g4 hg4 w4 hbox hb;have B4:=Aside0.mk hbox;have G4:Aside0 (w.heap.size≤g4):=⟨Nat.le_trans HB3.out.size (Nat.le_of_eq hg4.symm)⟩;clear hg4;have HB4:=Aside0.mk (below_step HB3.out hb);have m0_:=Aside0.mk (HF.out.below hb);have m1_:=Aside0.mk (blk_below B3.out hb);clear HF B3 HB3 hb hbox;have HF:=m0_;have B3:=m1_;clear m0_ m1_;have a3:w4.cell? ⟨g3,3,none⟩=some (.slice (some ⟨gF,0,none⟩) F.length cF):=(blk_cell B3.out 3).trans rfl;have b0:w4.cell? ⟨g4,0,none⟩=some (.int .i64 (i:Int)):=(blk_cell B4.out 0).trans rfl;have b1:w4.cell? ⟨g4,1,none⟩=some (.bool true):=(blk_cell B4.out 1).trans rfl)|fail)
  have c0:=HF.out.cell hi
  have f0:=HF.out.free i
  rw[← HY.out] at c0
  go_wp2_with fail
  refine bodyPost_end (results_none rfl _ _ _) rfl ⟨rfl,?_,(Ks.of_below HB4.out (fun b=>b=gF)).set (g:=gF) (fun _=>rfl) i _⟩
  have e:goS F ⟨(i:Int),true⟩ k=F.set i (y0+ -k):=by unfold goS;simp[HY.out,Int.sub_eq_add_neg]
  rw[e]
  exact HF.out.put i _
def minF (l:List S74) (F:List Int):Int→List S38→Int
 |a,[]=>a
 |a,s::L=>minF l F (min a (stRoom l F s)) L
theorem minF_least (l:List S74) (F:List Int): ∀ (L:List S38) (a:Int),L≠[]→minF l F a L=min a (leastR l F L)
 |[],a,h=>absurd rfl h
 |[s],a,_=>rfl
 |s::t::L,a,_=>by
  show minF l F (min a (stRoom l F s)) (t::L)=_
  rw[minF_least l F (t::L) _ (by simp)]
  show _=min a (min (stRoom l F s) (leastR l F (t::L)))
  omega
theorem minF_cons (l:List S74) (F:List Int) (s:S38) (L:List S38):minF l F (stRoom l F s) L=leastR l F (s::L):=by
 cases L with
 |nil=>rfl
 |cons t L=>rw[minF_least l F (t::L) _ (by simp)];rfl
attribute [local go_sem] max2_int min2_int max_two min_two
set_option maxHeartbeats 2000000 in
set_option maxRecDepth 100000 in
theorem least_calls (n0:Nat) (a0_1:Bool) (A2:Option Addr) (c2:Nat) (l:List S74) (A3:Option Addr) (c3:Nat) (F:List Int) (g cW:Nat) (W:List S38) (w:World)
  (hR:Right l F n0) (hW: ∀ s,s∈W→StepOf l s) (hne:0<W.length) (hl:W.length≤1000000) (hcW:W.length≤cW)
  (hc: ∀ (j:Nat) (e:S38),W[j]? =some e→w.cell? ⟨g,j * 2,none⟩=some (.int .i64 e.f0)∧w.cell? ⟨g,j * 2+1,none⟩=some (.bool e.f1))
  (hc2:l.length≤c2) (hc3:F.length≤c3) (h2:Kd.C k74 w A2 l.length l) (h3:Kd.C (Kd.int .i64) w A3 F.length F):
  Calls Try.prog 153 #[.agg #[.int .i64 (n0:Int), .bool a0_1, .slice A2 l.length c2, .slice A3 F.length c3], .slice (some ⟨g,0,none⟩) W.length cW] w fun e w'=>e= .returned (.int .i64 (leastR l F W))∧Below w.heap.size w w':=by
 have hu115:=Try.underlying115
 have hu38:=Try.underlying38
 have HR:=Aside0.mk hR
 have HC:=Aside0.mk hc
 have HW:=Aside0.mk hW
 have HC2:=Aside0.mk hc2
 have HC3:=Aside0.mk hc3
 have H2:=Aside0.mk h2
 have H3:=Aside0.mk h3
 obtain⟨e0,he0⟩: ∃ e,W[0]? =some e:=⟨_,List.getElem?_eq_getElem hne⟩
 have hm0:=List.mem_of_getElem? he0
 have HFM:=Aside0.mk (room_f hR (hW e0 hm0) (n0:Int) a0_1)
 have HE0:=Aside0.mk he0
 have p1:(0:Int)<(W.length:Int):=by omega
 have p2:(1:Int)≤(W.length:Int):=by omega
 clear hR hc hW hc2 hc3 h2 h3 he0 hm0
 go_enter Try.func153,Try.ntmps153
 go_upto_region 1 with (first|((with_reducible refine gate_dst (N:=2) rfl ?_);refine box_event ?hg (N:=2) ?hd (cs:= #[.int .i64 (n0:Int), .bool a0_1, .slice A2 l.length c2, .slice A3 F.length c3]) (t:=115) ?hr ?_;(case hd=>rfl);(case hg=>rfl);(case hr=>first|(go_simp;done)|(go_simp;rfl));intro g2 hg2 w3 hbox hb;have B2:=Aside0.mk hbox;have HB:=Aside0.mk hb;clear hg2 hb hbox)|fail)
 have a0:w3.cell? ⟨g2,0,none⟩=some (.int .i64 n0):=(blk_cell B2.out 0).trans rfl;have a1:w3.cell? ⟨g2,1,none⟩=some (.bool a0_1):=(blk_cell B2.out 1).trans rfl;have a2:w3.cell? ⟨g2,2,none⟩=some (.slice A2 l.length c2):=(blk_cell B2.out 2).trans rfl;have a3:w3.cell? ⟨g2,3,none⟩=some (.slice A3 F.length c3):=(blk_cell B2.out 3).trans rfl
 obtain⟨b0,b1⟩:=HC.out 0 e0 HE0.out
 replace b0:=pw_cell_below HB.out b0
 replace b1:=pw_cell_below HB.out b1
 have q0: ∀ p:BelowW w3,p.at_.cell? ⟨g2,0,none⟩=some (.int .i64 n0):=fun p=>p.cell a0
 have q1: ∀ p:BelowW w3,p.at_.cell? ⟨g2,1,none⟩=some (.bool a0_1):=fun p=>p.cell a1
 have q2: ∀ p:BelowW w3,p.at_.cell? ⟨g2,2,none⟩=some (.slice A2 l.length c2):=fun p=>p.cell a2
 have q3: ∀ p:BelowW w3,p.at_.cell? ⟨g2,3,none⟩=some (.slice A3 F.length c3):=fun p=>p.cell a3
 have q4: ∀ p:BelowW w3,p.at_.cell? ⟨g,0,none⟩=some (.int .i64 e0.f0):=fun p=>p.cell (by simpa using b0)
 have q5: ∀ p:BelowW w3,p.at_.cell? ⟨g,1,none⟩=some (.bool e0.f1):=fun p=>p.cell (by simpa using b1)
 have HCA:Aside0 (∀ p:BelowW w3,Kd.C k74 p.at_ A2 l.length l):=⟨fun p=>Kd.C_below (Kd.C_below H2.out HB.out) p.below⟩
 have HCF:Aside0 (∀ p:BelowW w3,Kd.C (Kd.int .i64) p.at_ A3 F.length F):=⟨fun p=>Kd.C_below (Kd.C_below H3.out HB.out) p.below⟩
 clear a0 a1 a2 a3 b0 b1
 refine wp_region_quiet_below (by kernel_rfl) (by kernel_rfl) ?_;(repeat(quiet_step ((first|(go_at_call 104;exact calls_below_of (static_Flowing_Room.calls (n0:Int) a0_1 A2 c2 l A3 c3 F e0.f0 e0.f1 _ _ (HCA.out _) HC2.out (HCF.out _) HC3.out HFM.out))))));refine wpQuiet_nil ?_;intro wq hw';obtain⟨⟨wz,hbq⟩,hwq⟩:=hw';subst hwq
 have m0_:=Aside0.mk (below_step HB.out hbq)
 have m1_:=Aside0.mk (blk_below B2.out hbq)
 clear HB B2 hbq q0 q1 q2 q3 q4 q5 HCA HCF
 have HB:=m0_
 have B2:=m1_
 clear m0_ m1_
 go_upto_region 2 with fail
 go_cut [14,15,16] (fun v14 v15 v16 wx=> ∃ oz cz:Nat,v14= .slice (some ⟨g,oz,none⟩) (W.length - 1) cz∧(1<W.length→oz=2)∧v15= .int .i64 ((W.length - 1:Nat):Int)∧v16= .int .i64 0∧wx=wq)
 case first=>
  by_cases hcap:cW=1
  ·have e9:W.length=1:=by omega
   go_wp2_with fail
   go_meet
   exact⟨0,0,by simp[e9],fun h=>by omega,by simp[e9],rfl,rfl⟩
  ·go_wp2_with fail
   go_meet
   exact⟨2,_,rfl,fun h=>rfl,rfl,rfl,rfl⟩
 case rest=>
  obtain⟨oz,cz,rfl,hoz,rfl,rfl,rfl⟩:=hcut
  go_wp2_with fail
  go_loopw [5,16] (fun v5 v16 w'=> ∃ (a:Int) (j:Nat),v5= .int .i64 a∧v16= .int .i64 (j:Int)∧j+1≤W.length∧Aside0 (minF l F a (W.drop (j+1))=leastR l F W)∧Aside0 (w'.heap[g2]? =some (.cells #[.int .i64 (n0:Int), .bool a0_1, .slice A2 l.length c2, .slice A3 F.length c3] 115 (0,0)))∧Aside0 (Below w.heap.size w w')) (fun _ v16 _=>W.length - (intOf v16).toNat)
  case atStart=>exact⟨stRoom l F e0,0,rfl,rfl,by omega,⟨by
   have hd:W=e0::W.drop 1:=by
    obtain⟨h1,h2⟩:=List.getElem?_eq_some_iff.1 HE0.out
    have h_:=List.drop_eq_getElem_cons (i:=0) (l:=W) (by omega)
    rw[List.drop_zero,h2] at h_
    exact h_
   rw[Nat.zero_add,minF_cons, ← hd]⟩,B2,HB⟩
  case round=>
   clear B2 HB
   obtain⟨a,j,rfl,rfl,hj,HM,B2,HB⟩:=hrel
   by_cases hlt:j+1<W.length
   ·have e1:decide ((j:Int)<((W.length - 1:Nat):Int))=true:=decide_eq_true (by omega)
    obtain rfl:=hoz (by omega)
    obtain⟨e,he⟩: ∃ e,W[j+1]? =some e:=⟨_,List.getElem?_eq_getElem hlt⟩
    obtain⟨b0,b1⟩:=HC.out (j+1) e he
    have b0:wr.cell? ⟨g,2+j * 2,none⟩=some (.int .i64 e.f0):=by rw[show 2+j * 2=(j+1) * 2 by omega];exact pw_cell_below HB.out b0
    have b1:wr.cell? ⟨g,2+j * 2+1,none⟩=some (.bool e.f1):=by rw[show 2+j * 2=(j+1) * 2 by omega];exact pw_cell_below HB.out b1
    have HFM2:=Aside0.mk (room_f HR.out (HW.out e (List.mem_of_getElem? he)) (n0:Int) a0_1)
    have hM2:minF l F (min a (stRoom l F e)) (W.drop (j+1+1))=leastR l F W:=by
     rw[← HM.out]
     obtain⟨h1,h2⟩:=List.getElem?_eq_some_iff.1 he
     rw[List.drop_eq_getElem_cons h1,h2]
     rfl
    obtain⟨rm,hrm⟩: ∃ r_,r_=stRoom l F e:=⟨_,rfl⟩
    rw[← hrm] at hM2
    rw[← hrm] at HFM2
    clear he hrm
    have q1:(0:Int)≤(j:Int):=by omega
    have q2:(j:Int)<((W.length - 1:Nat):Int):=by omega
    go_upto_region 5 with fail
    have HN:Aside0 ((wr.alloc (.cells #[.int .i64 e.f0, .bool e.f1] 38)).heap[wr.heap.size]? =some (.cells #[.int .i64 e.f0, .bool e.f1] 38 (0,0))):=⟨heap_alloc_new _ _⟩
    have m0_:=Aside0.mk (below_alloc HB.out (.cells #[.int .i64 e.f0, .bool e.f1] 38))
    have m1_:=Aside0.mk (blk_below B2.out (below_alloc (Below.refl _ _) (.cells #[.int .i64 e.f0, .bool e.f1] 38)))
    clear HB B2 b0 b1
    have HB:=m0_
    have B2:=m1_
    clear m0_ m1_
    generalize wr.alloc (.cells #[.int .i64 e.f0, .bool e.f1] 38)=w5 at *
    generalize wr.heap.size=g7 at *
    have a0:w5.cell? ⟨g2,0,none⟩=some (.int .i64 n0):=(blk_cell B2.out 0).trans rfl;have a1:w5.cell? ⟨g2,1,none⟩=some (.bool a0_1):=(blk_cell B2.out 1).trans rfl;have a2:w5.cell? ⟨g2,2,none⟩=some (.slice A2 l.length c2):=(blk_cell B2.out 2).trans rfl;have a3:w5.cell? ⟨g2,3,none⟩=some (.slice A3 F.length c3):=(blk_cell B2.out 3).trans rfl
    have b0:w5.cell? ⟨g7,0,none⟩=some (.int .i64 e.f0):=(blk_cell HN.out 0).trans rfl
    have b1:w5.cell? ⟨g7,1,none⟩=some (.bool e.f1):=(blk_cell HN.out 1).trans rfl
    have hmn:(if rm<a then rm else a)=min a rm:=by split<;>omega
    go_wp2_with (first|(go_at_call 104;refine(static_Flowing_Room.calls (n0:Int) a0_1 A2 c2 l A3 c3 F e.f0 e.f1 _ _ (Kd.C_below H2.out HB.out) HC2.out (Kd.C_below H3.out HB.out) HC3.out HFM2.out).mono ?_;rintro e_ w6 ⟨rfl,hb⟩;have m0_:=Aside0.mk (below_step HB.out hb);have m1_:=Aside0.mk (blk_below B2.out hb);clear HB B2 a0 a1 a2 a3 b0 b1 hb;have HB:=m0_;have B2:=m1_;clear m0_ m1_)|fail)
    go_roundw
    case rel=>exact⟨min a rm,j+1,rfl,by go_num,by omega,⟨hM2⟩,B2,HB⟩
    case measure=>show W.length - ((j:Int)+1).toNat<W.length - (j:Int).toNat;omega
   ·have e1:decide ((j:Int)<((W.length - 1:Nat):Int))=false:=decide_eq_false (by omega)
    have hr:a=leastR l F W:=by
     rw[← HM.out,List.drop_of_length_le (by omega)]
     rfl
    have HRR:=Aside0.mk hr
    clear hr
    go_wp2_with fail
    go_ret
    exact⟨by rw[← HRR.out];rfl,HB.out⟩
end Go.Proofs.Ytkcpanpdipmmmaa.H
namespace Go.Proofs.Ytkcpanpdipmmmaa.H
section
variable {α:Type}
structure Net_ (α:Type) where
 rows:Nat→List α
 to_:α→Nat
 fr:α→Nat
 D:Nat→Int
 ok:α→Bool
def Net_.adm (g:Net_ α) (u:Nat) (e:α):Bool:=decide (g.D (g.to_ e)=g.D u+1) && g.ok e
def scanG (p:α→Bool):List α→Nat→Option (Nat × α)
 |[],_=>none
 |e::r,j=>if p e then some (j,e) else scanG p r (j+1)
theorem scanG_some {p:α→Bool} : ∀ {r:List α} {i j:Nat} {e:α},scanG p r i=some (j,e)→i≤j∧r[j - i]? =some e∧p e=true∧ ∀ q,q<j - i→ ∀ x,r[q]? =some x→p x=false
 |[],_,_,_,h=>by cases h
 |x::r,i,j,e,h=>by
  unfold scanG at h
  by_cases hp:p x=true
  ·rw[if_pos hp] at h
   injection h with h
   injection h with h1 h2
   subst h1
   subst h2
   exact⟨Nat.le_refl _,by simp,hp,fun q hq=>by omega⟩
  ·rw[if_neg hp] at h
   obtain⟨h1,h2,h3,h4⟩:=scanG_some h
   refine⟨by omega,?_,h3,fun q hq y hy=> ?_⟩
   ·rw[show j - i=(j - (i+1))+1 by omega,List.getElem?_cons_succ]
    exact h2
   ·cases q with
    |zero=>simp at hy;rw[← hy];simpa using hp
    |succ q=>rw[List.getElem?_cons_succ] at hy;exact h4 q (by omega) y hy
theorem scanG_none {p:α→Bool} : ∀ {r:List α} {i:Nat},scanG p r i=none→ ∀ x,x∈r→p x=false
 |[],_,_,x,hx=>by cases hx
 |y::r,i,h,x,hx=>by
  unfold scanG at h
  by_cases hp:p y=true
  ·rw[if_pos hp] at h;cases h
  ·rw[if_neg hp] at h
   rcases List.mem_cons.1 hx with rfl|hx
   ·simpa using hp
   ·exact scanG_none h x hx
def downG (g:Net_ α) (s t:Nat):Nat→Nat→List α→List Nat→Option (List α) × List Nat
 |0,_,_,nx=>(none,nx)
 |k+1,v,way,nx=>
  if v=t then(some way,nx) else
  match scanG (g.adm v) ((g.rows v).drop (nx.getD v 0)) (nx.getD v 0) with
  |some (j,e)=>downG g s t k (g.to_ e) (way ++ [e]) (nx.set v j)
  |none=>if v=s then(none,nx.set v (g.rows v).length) else match way.getLast? with
   |none=>(none,nx)
   |some e=>downG g s t k (g.fr e) way.dropLast ((nx.set v (g.rows v).length).set (g.fr e) ((nx.set v (g.rows v).length).getD (g.fr e) 0+1))
def remG (g:Net_ α) (nx:List Nat):Nat→Nat
 |0=>0
 |n+1=>remG g nx n+((g.rows n).length - nx.getD n 0)
theorem remG_set (g:Net_ α) (nx:List Nat) (v j:Nat) (hv:v<nx.length) (h1:nx.getD v 0≤j) (h2:j≤(g.rows v).length) (n:Nat):remG g (nx.set v j) n+(if v<n then j - nx.getD v 0 else 0)=remG g nx n:=by
 induction n with
 |zero=>simp[remG]
 |succ n ih=>
  unfold remG
  by_cases e:v=n
  ·subst e
   have e1:(nx.set v j).getD v 0=j:=by rw[List.getD_eq_getElem?_getD,List.getElem?_set_self hv];rfl
   rw[e1,if_pos (by omega)]
   rw[if_neg (by omega)] at ih
   omega
  ·have e1:(nx.set v j).getD n 0=nx.getD n 0:=by rw[List.getD_eq_getElem?_getD,List.getElem?_set_ne e, ← List.getD_eq_getElem?_getD]
   rw[e1]
   by_cases h:v<n
   ·rw[if_pos h] at ih;rw[if_pos (by omega)];omega
   ·rw[if_neg h] at ih;rw[if_neg (by omega)];omega
structure DInv (g:Net_ α) (s n v:Nat) (way:List α) (nx:List Nat):Prop where
 vn:v<n
 len:nx.length=n
 le: ∀ u,u<n→nx.getD u 0≤(g.rows u).length
 trail:Leads g.to_ g.rows s way v
 adm: ∀ e,e∈way→g.adm (g.fr e) e=true
 at_: ∀ e,e∈way→(g.rows (g.fr e))[nx.getD (g.fr e) 0]? =some e
structure Net_.Fine (g:Net_ α) (s n:Nat):Prop where
 hfr: ∀ u e,e∈g.rows u→g.fr e=u
 hto: ∀ u e,e∈g.rows u→g.to_ e<n
 sn:s<n
 hs:g.D s=0
 hD: ∀ v,v<n→g.D v<n
theorem adm_lv {g:Net_ α} {u:Nat} {e:α} (h:g.adm u e=true):g.D (g.to_ e)=g.D u+1∧g.ok e=true:=by
 unfold Net_.adm at h
 rw[Bool.and_eq_true,decide_eq_true_eq] at h
 exact h
theorem leads_lv {g:Net_ α} (hfr: ∀ u e,e∈g.rows u→g.fr e=u): ∀ {way:List α} {s v:Nat},Leads g.to_ g.rows s way v→(∀ e,e∈way→g.adm (g.fr e) e=true)→g.D s≤g.D v∧ ∀ e,e∈way→g.D s≤g.D (g.fr e)∧g.D (g.fr e)<g.D v
 |[],s,v,h,_=>by cases h;exact⟨Int.le_refl _,fun e he=>by cases he⟩
 |x::way,s,v,h,ha=>by
  have hx:=adm_lv (ha x List.mem_cons_self)
  rw[hfr _ _ h.1] at hx
  obtain⟨h1,h2⟩:=leads_lv hfr h.2 (fun e he=>ha e (List.mem_cons_of_mem _ he))
  refine⟨by omega,fun e he=> ?_⟩
  rcases List.mem_cons.1 he with rfl|he
  ·rw[hfr _ _ h.1];omega
  ·have:=h2 e he;omega
theorem leads_last {to_:α→Nat} {es:Nat→List α} : ∀ {way:List α} {s v:Nat} {e:α},Leads to_ es s way v→way.getLast? =some e→ ∃ u,Leads to_ es s way.dropLast u∧e∈es u∧to_ e=v
 |[],_,_,_,_,h=>by simp at h
 |[x],s,v,e,h,hl=>by
  simp at hl
  subst hl
  exact⟨s,rfl,h.1,h.2⟩
 |x::y::way,s,v,e,h,hl=>by
  obtain⟨u,h1,h2,h3⟩:=leads_last h.2 (by simpa using hl)
  exact⟨u,⟨h.1,h1⟩,h2,h3⟩
theorem dropLast_mem {way:List α} {e:α} (h:e∈way.dropLast):e∈way:=List.dropLast_subset _ h
def Useless (g:Net_ α) (t n:Nat) (nx:List Nat) (w:Nat):Prop:=w≠t∧w<n∧nx.getD w 0=(g.rows w).length
def Dead (g:Net_ α) (t n:Nat) (nx:List Nat):Prop:= ∀ u,u<n→ ∀ j,j<nx.getD u 0→ ∀ e,(g.rows u)[j]? =some e→g.adm u e=true→Useless g t n nx (g.to_ e)
theorem getD_setN (nx:List Nat) (v j u:Nat) (hv:v<nx.length):(nx.set v j).getD u 0=if u=v then j else nx.getD u 0:=by
 by_cases e:u=v
 ·subst e
  rw[if_pos rfl,List.getD_eq_getElem?_getD,List.getElem?_set_self hv];rfl
 ·rw[if_neg e,List.getD_eq_getElem?_getD,List.getElem?_set_ne (Ne.symm e), ← List.getD_eq_getElem?_getD]
theorem DInv.go {g:Net_ α} {s n v:Nat} {way:List α} {nx:List Nat} (hg:g.Fine s n) (h:DInv g s n v way nx) {j:Nat} {e:α} (hj:nx.getD v 0≤j) (he:(g.rows v)[j]? =some e) (ha:g.adm v e=true):
  DInv g s n (g.to_ e) (way ++ [e]) (nx.set v j):=by
 have hm:e∈g.rows v:=List.mem_of_getElem? he
 have hv:=h.vn
 have hl:=h.len
 have hjl:=(List.getElem?_eq_some_iff.1 he).1
 have hlv:=(leads_lv hg.hfr h.trail h.adm).2
 refine⟨hg.hto _ _ hm,by rw[List.length_set];exact hl,fun u hu=> ?_,h.trail.snoc hm,fun x hx=> ?_,fun x hx=> ?_⟩
 ·rw[getD_setN _ _ _ _ (by omega)]
  split
  ·rename_i eu;subst eu;omega
  ·exact h.le u hu
 ·rcases List.mem_append.1 hx with hx|hx
  ·exact h.adm x hx
  ·rw[List.mem_singleton.1 hx,hg.hfr _ _ hm];exact ha
 ·rw[getD_setN _ _ _ _ (by omega)]
  rcases List.mem_append.1 hx with hx|hx
  ·have:=hlv x hx
   rw[if_neg (fun e=>by rw[e] at this;omega)]
   exact h.at_ x hx
  ·rw[List.mem_singleton.1 hx,hg.hfr _ _ hm,if_pos rfl];exact he
theorem DInv.back {g:Net_ α} {s n v:Nat} {way:List α} {nx:List Nat} (hg:g.Fine s n) (h:DInv g s n v way nx) {e:α} (hl:way.getLast? =some e):
  DInv g s n (g.fr e) way.dropLast ((nx.set v (g.rows v).length).set (g.fr e) ((nx.set v (g.rows v).length).getD (g.fr e) 0+1))∧g.fr e≠v∧g.to_ e=v∧g.D v=g.D (g.fr e)+1∧g.fr e<n∧e∈way:=by
 obtain⟨u,h1,h2,h3⟩:=leads_last h.trail hl
 have hm:e∈way:=List.mem_of_getLast? hl
 have eu:=hg.hfr _ _ h2
 subst eu
 have ha:=adm_lv (h.adm e hm)
 rw[h3] at ha
 have hlen:=h.len
 have hv:=h.vn
 have hne:g.fr e≠v:=fun e'=>by rw[e'] at ha;omega
 have hat:=h.at_ e hm
 have hat2:=(List.getElem?_eq_some_iff.1 hat).1
 have hun:g.fr e<n:=by
  cases hd:way.dropLast with
  |nil=>
   rw[hd] at h1
   have:s=g.fr e:=h1
   rw[← this]
   exact hg.sn
  |cons x r=>
   obtain⟨w,q1,q2,q3⟩:=leads_last h1 (e:=(way.dropLast.getLast?).getD x) (by rw[hd];simp[List.getLast?_cons])
   rw[← q3]
   exact hg.hto _ _ q2
 have hlv:=(leads_lv hg.hfr h1 (fun x hx=>h.adm x (dropLast_mem hx))).2
 refine⟨⟨hun,by rw[List.length_set,List.length_set];exact hlen,fun w hw=> ?_,h1,fun x hx=>h.adm x (dropLast_mem hx),fun x hx=> ?_⟩,hne,h3,ha.1,hun,hm⟩
 ·rw[getD_setN _ _ _ _ (by rw[List.length_set];omega),getD_setN _ _ _ _ (by omega),getD_setN _ _ _ _ (by omega),if_neg hne]
  split
  ·rename_i ew;subst ew;omega
  ·split
   ·rename_i ew;subst ew;exact Nat.le_refl _
   ·exact h.le w hw
 ·have hx1:=hlv x hx
  have hx2:=(leads_lv hg.hfr h.trail h.adm).2 x (dropLast_mem hx)
  rw[getD_setN _ _ _ _ (by rw[List.length_set];omega),if_neg (fun e'=>by rw[e'] at hx1;omega),getD_setN _ _ _ _ (by omega),if_neg (fun e'=>by rw[e'] at hx2;omega)]
  exact h.at_ x (dropLast_mem hx)
def downM (g:Net_ α) (n v:Nat) (nx:List Nat):Nat:=remG g nx n * (n+1)+(n - (g.D v).toNat)
theorem downM_go {g:Net_ α} {s n v:Nat} {way:List α} {nx:List Nat} (hg:g.Fine s n) (h:DInv g s n v way nx) {j:Nat} {e:α} (hj:nx.getD v 0≤j) (he:(g.rows v)[j]? =some e) (ha:g.adm v e=true):
  downM g n (g.to_ e) (nx.set v j)<downM g n v nx:=by
 have hm:e∈g.rows v:=List.mem_of_getElem? he
 have hjl:=(List.getElem?_eq_some_iff.1 he).1
 have hv:=h.vn
 have hl:=h.len
 have h1:=remG_set g nx v j (by omega) hj (by omega) n
 have h2:remG g (nx.set v j) n * (n+1)≤remG g nx n * (n+1):=Nat.mul_le_mul_right _ (by omega)
 have h3:=(adm_lv ha).1
 have h4:=hg.hD _ (hg.hto _ _ hm)
 have h5:=(leads_lv hg.hfr h.trail h.adm).1
 have h6:=hg.hs
 unfold downM
 omega
theorem downM_back {g:Net_ α} {s n v:Nat} {way:List α} {nx:List Nat} (hg:g.Fine s n) (h:DInv g s n v way nx) {e:α} (hl:way.getLast? =some e):
  downM g n (g.fr e) ((nx.set v (g.rows v).length).set (g.fr e) ((nx.set v (g.rows v).length).getD (g.fr e) 0+1))<downM g n v nx:=by
 obtain⟨_,hne,h3,hD,hun,hm⟩:=h.back hg hl
 have hv:=h.vn
 have hlen:=h.len
 have hat2:=(List.getElem?_eq_some_iff.1 (h.at_ e hm)).1
 have e1:(nx.set v (g.rows v).length).getD (g.fr e) 0=nx.getD (g.fr e) 0:=by rw[getD_setN _ _ _ _ (by omega),if_neg hne]
 have h1:=remG_set g nx v (g.rows v).length (by omega) (h.le v hv) (Nat.le_refl _) n
 have h2:=remG_set g (nx.set v (g.rows v).length) (g.fr e) (nx.getD (g.fr e) 0+1) (by rw[List.length_set];omega) (by rw[e1];omega) (by omega) n
 rw[if_pos hun,e1] at h2
 rw[e1]
 have h4:remG g ((nx.set v (g.rows v).length).set (g.fr e) (nx.getD (g.fr e) 0+1)) n+1≤remG g nx n:=by omega
 have h5:=Nat.mul_le_mul_right (n+1) h4
 rw[Nat.add_mul,Nat.one_mul] at h5
 have h6:=(leads_lv hg.hfr h.trail h.adm).2 e hm
 have h7:=hg.hs
 have h8:=hg.hD v hv
 unfold downM
 omega
structure Found (g:Net_ α) (s t n:Nat) (r:Option (List α) × List Nat):Prop where
 len:r.2.length=n
 le: ∀ u,u<n→r.2.getD u 0≤(g.rows u).length
 way: ∀ L,r.1=some L→Leads g.to_ g.rows s L t∧ ∀ e,e∈L→g.adm (g.fr e) e=true
 none_:r.1=none→r.2.getD s 0=(g.rows s).length
theorem drop_head {r:List α} {i j:Nat} (h:i≤j):(r.drop i)[j - i]? =r[j]? :=by
 rw[List.getElem?_drop];congr 1;omega
theorem downG_found {g:Net_ α} {s t n:Nat} (hg:g.Fine s n) (k:Nat): ∀ {v:Nat} {way:List α} {nx:List Nat},DInv g s n v way nx→downM g n v nx<k→Found g s t n (downG g s t k v way nx):=by
 induction k with
 |zero=>intro v way nx h hk;omega
 |succ k ih=>
  intro v way nx h hk
  unfold downG
  by_cases hvt:v=t
  ·rw[if_pos hvt]
   exact⟨h.len,h.le,fun L hL=>by injection hL with hL;subst hL;exact⟨hvt▸h.trail,h.adm⟩,fun e=>by cases e⟩
  ·rw[if_neg hvt]
   cases hs:scanG (g.adm v) ((g.rows v).drop (nx.getD v 0)) (nx.getD v 0) with
   |some p=>
    obtain⟨j,e⟩:=p
    obtain⟨h1,h2,h3,_⟩:=scanG_some hs
    rw[drop_head h1] at h2
    have:=downM_go hg h h1 h2 h3
    exact ih (h.go hg h1 h2 h3) (by omega)
   |none=>
    have hv:=h.vn
    have hl:=h.len
    by_cases hvs:v=s
    ·show Found g s t n (if v=s then _ else _)
     rw[if_pos hvs]
     refine⟨by rw[List.length_set];exact h.len,fun u hu=> ?_,fun L hL=>(by cases hL),fun _=> ?_⟩
     ·show (nx.set v _).getD u 0≤_
      rw[getD_setN _ _ _ _ (by omega)]
      split
      ·rename_i e;subst e;exact Nat.le_refl _
      ·exact h.le u hu
     ·show (nx.set v _).getD s 0=_
      rw[getD_setN _ _ _ _ (by omega),if_pos hvs.symm,hvs]
    ·show Found g s t n (if v=s then _ else _)
     rw[if_neg hvs]
     cases hw:way.getLast? with
     |none=>
      rw[List.getLast?_eq_none_iff] at hw
      subst hw
      exact absurd h.trail.symm hvs
     |some e=>
      have:=downM_back hg h hw
      exact ih (h.back hg hw).1 (by omega)
theorem downG_dead {g:Net_ α} {s t n:Nat} (hg:g.Fine s n) (k:Nat): ∀ {v:Nat} {way:List α} {nx:List Nat},DInv g s n v way nx→downM g n v nx<k→Dead g t n nx→Dead g t n (downG g s t k v way nx).2:=by
 induction k with
 |zero=>intro v way nx h hk;omega
 |succ k ih=>
  intro v way nx h hk hd
  unfold downG
  by_cases hvt:v=t
  ·rw[if_pos hvt];exact hd
  ·rw[if_neg hvt]
   have hv:=h.vn
   have hl:=h.len
   cases hs:scanG (g.adm v) ((g.rows v).drop (nx.getD v 0)) (nx.getD v 0) with
   |some p=>
    obtain⟨j,e⟩:=p
    obtain⟨h1,h2,h3,h4⟩:=scanG_some hs
    rw[drop_head h1] at h2
    have hjl:=(List.getElem?_eq_some_iff.1 h2).1
    have:=downM_go hg h h1 h2 h3
    refine ih (h.go hg h1 h2 h3) (by omega) ?_
    have hu: ∀ w,Useless g t n nx w→Useless g t n (nx.set v j) w:=by
     rintro w ⟨a,b,c⟩
     refine⟨a,b,?_⟩
     rw[getD_setN _ _ _ _ (by omega)]
     split
     ·rename_i ew;subst ew;omega
     ·exact c
    intro u hu2 q hq x hx hax
    rw[getD_setN _ _ _ _ (by omega)] at hq
    by_cases ev:u=v
    ·subst ev
     rw[if_pos rfl] at hq
     by_cases hq2:q<nx.getD u 0
     ·exact hu _ (hd u hu2 q hq2 x hx hax)
     ·exfalso
      have:=h4 (q - nx.getD u 0) (by omega) x (by rw[drop_head (by omega)];exact hx)
      rw[this] at hax;cases hax
    ·rw[if_neg ev] at hq
     exact hu _ (hd u hu2 q hq x hx hax)
   |none=>
    have hsn:=scanG_none hs
    have hd1:Dead g t n (nx.set v (g.rows v).length)∧Useless g t n (nx.set v (g.rows v).length) v:=by
     have hu: ∀ w,Useless g t n nx w→Useless g t n (nx.set v (g.rows v).length) w:=by
      rintro w ⟨a,b,c⟩
      refine⟨a,b,?_⟩
      rw[getD_setN _ _ _ _ (by omega)]
      split
      ·rename_i ew;subst ew;rfl
      ·exact c
     refine⟨fun u hu2 q hq x hx hax=> ?_,hvt,hv,by rw[getD_setN _ _ _ _ (by omega),if_pos rfl]⟩
     rw[getD_setN _ _ _ _ (by omega)] at hq
     by_cases ev:u=v
     ·subst ev
      by_cases hq2:q<nx.getD u 0
      ·exact hu _ (hd u hu2 q hq2 x hx hax)
      ·exfalso
       have:=hsn x (List.mem_of_getElem? (i:=q - nx.getD u 0) (by rw[drop_head (by omega)];exact hx))
       rw[this] at hax;cases hax
     ·rw[if_neg ev] at hq
      exact hu _ (hd u hu2 q hq x hx hax)
    by_cases hvs:v=s
    ·show Dead g t n (if v=s then _ else _:Option (List α) × List Nat).2
     rw[if_pos hvs]
     exact hd1.1
    ·show Dead g t n (if v=s then _ else _:Option (List α) × List Nat).2
     rw[if_neg hvs]
     cases hw:way.getLast? with
     |none=>exact hd
     |some e=>
      have hlt:=downM_back hg h hw
      obtain⟨hb,hne,hto,hDv,hun,hm⟩:=h.back hg hw
      refine ih hb (by omega) ?_
      have hat:=h.at_ e hm
      have hat2:=(List.getElem?_eq_some_iff.1 hat).1
      have e1:(nx.set v (g.rows v).length).getD (g.fr e) 0=nx.getD (g.fr e) 0:=by rw[getD_setN _ _ _ _ (by omega),if_neg hne]
      have hu: ∀ w,Useless g t n (nx.set v (g.rows v).length) w→Useless g t n ((nx.set v (g.rows v).length).set (g.fr e) ((nx.set v (g.rows v).length).getD (g.fr e) 0+1)) w:=by
       rintro w ⟨a,b,c⟩
       refine⟨a,b,?_⟩
       rw[getD_setN _ _ _ _ (by rw[List.length_set];omega)]
       split
       ·rename_i ew;subst ew;omega
       ·exact c
      intro u hu2 q hq x hx hax
      rw[getD_setN _ _ _ _ (by rw[List.length_set];omega)] at hq
      by_cases ev:u=g.fr e
      ·subst ev
       rw[if_pos rfl,e1] at hq
       by_cases hq2:q<nx.getD (g.fr e) 0
       ·exact hu _ (hd1.1 _ hu2 q (by rw[e1];exact hq2) x hx hax)
       ·have:q=nx.getD (g.fr e) 0:=by omega
        subst this
        rw[hat] at hx
        injection hx with hx
        subst hx
        rw[hto]
        exact hu _ hd1.2
      ·rw[if_neg ev] at hq
       exact hu _ (hd1.1 u hu2 q hq x hx hax)
theorem dead_way {g:Net_ α} {t n:Nat} {nx:List Nat} (hfr: ∀ u e,e∈g.rows u→g.fr e=u) (hd:Dead g t n nx): ∀ {L:List α} {u:Nat},Leads g.to_ g.rows u L t→(∀ e,e∈L→g.adm (g.fr e) e=true)→ ¬ Useless g t n nx u
 |[],u,h,_,hu=>hu.1 h
 |x::L,u,h,ha,hu=>by
  obtain⟨j,hj⟩:=List.getElem?_of_mem h.1
  have hjl:=(List.getElem?_eq_some_iff.1 hj).1
  have hx:=ha x List.mem_cons_self
  rw[hfr _ _ h.1] at hx
  exact dead_way hfr hd h.2 (fun e he=>ha e (List.mem_cons_of_mem _ he)) (hd u hu.2.1 j (by rw[hu.2.2];exact hjl) x hj hx)
end
end Go.Proofs.Ytkcpanpdipmmmaa.H
namespace Go.Proofs.Ytkcpanpdipmmmaa.H
open Go.RowKit Go.Proofs.YtkcpanpdipmmmaaW.PrintWords Go.Proofs.YtkcpanpdipmmmaaW.PrintLast Go.Proofs.YtkcpanpdipmmmaaW.PrintMore Go.Proofs.Ytkcpanpdipmmmaa.P Go.Proofs.Ytkcpanpdipmmmaa.Q
def outR (R:Int→Bool):List S74→List Int→Int
 |a::l,x::f=>(if R a.f0 then x else 0) - (if R a.f1 then x else 0)+outR R l f
 |_,_=>0
theorem outR_cons (R:Int→Bool) (a:S74) (l:List S74) (x:Int) (f:List Int):outR R (a::l) (x::f)=(if R a.f0 then x else 0) - (if R a.f1 then x else 0)+outR R l f:=rfl
def capR (R:Int→Bool):List S74→Int
 |[]=>0
 |a::l=>(if R a.f0 && !R a.f1 then a.f2 else 0)+capR R l
theorem capR_cons (R:Int→Bool) (a:S74) (l:List S74):capR R (a::l)=(if R a.f0 && !R a.f1 then a.f2 else 0)+capR R l:=rfl
def sumR (R:Int→Bool) (g:Int→Int):Nat→Int
 |0=>0
 |n+1=>sumR R g n+(if R n then g n else 0)
theorem sumR_add (R:Int→Bool) (g h:Int→Int) (n:Nat):sumR R (fun v=>g v+h v) n=sumR R g n+sumR R h n:=by
 induction n with
 |zero=>rfl
 |succ n ih=>unfold sumR;rw[ih];split<;>omega
theorem sumR_one (R:Int→Bool) (a x:Int) (n:Nat) (h0:0≤a) (h1:a<n):sumR R (fun v=>if a=v then x else 0) n=if R a then x else 0:=by
 have aux: ∀ m:Nat,sumR R (fun v=>if a=v then x else 0) m=if a<m then(if R a then x else 0) else 0:=by
  intro m
  induction m with
  |zero=>rw[if_neg (by omega)];rfl
  |succ m ih=>
   unfold sumR
   rw[ih]
   show _+(if R m then(if a=(m:Int) then x else 0) else 0)=_
   by_cases e:a=(m:Int)
   ·subst e
    rw[if_neg (Int.lt_irrefl _),if_pos (show (m:Int)<((m+1:Nat):Int) by omega),if_pos rfl]
    omega
   ·have e2:(if R m then(if a=(m:Int) then x else 0) else 0)=0:=by rw[if_neg e];split<;>rfl
    rw[e2]
    by_cases hm:a<(m:Int)
    ·rw[if_pos hm,if_pos (show a<((m+1:Nat):Int) by omega)]
     omega
    ·rw[if_neg hm,if_neg (show ¬ a<((m+1:Nat):Int) by omega)]
     omega
 rw[aux,if_pos h1]
theorem sumR_zero (R:Int→Bool) (n:Nat):sumR R (fun _=>0) n=0:=by
 induction n with
 |zero=>rfl
 |succ n ih=>unfold sumR;rw[ih];simp
theorem sumR_neg (R:Int→Bool) (g:Int→Int) (n:Nat):sumR R (fun v=> -g v) n= -sumR R g n:=by
 induction n with
 |zero=>rfl
 |succ n ih=>unfold sumR;rw[ih];split<;>omega
theorem sum_bal (R:Int→Bool) (n:Nat): ∀ (l:List S74) (f:List Int),(∀ a,a∈l→(0≤a.f0∧a.f0<n)∧0≤a.f1∧a.f1<n)→f.length=l.length→sumR R (bal l f) n=outR R l f
 |[],[],_,_=>by
  have e:bal ([]:List S74) []=fun _=>0:=rfl
  rw[e,sumR_zero]
  rfl
 |[],_::_,_,h=>by simp at h
 |_::_,[],_,h=>by simp at h
 |a::l,x::f,h,hl=>by
  obtain⟨⟨h1,h2⟩,h3,h4⟩:=h a List.mem_cons_self
  have e:bal (a::l) (x::f)=fun v=>((if a.f0=v then x else 0)+ -(if a.f1=v then x else 0))+bal l f v:=by
   funext v
   rw[bal_cons]
   omega
  rw[e,sumR_add,sumR_add,sumR_one R _ x n h1 h2,sumR_neg,sumR_one R _ x n h3 h4,sum_bal R n l f (fun b hb=>h b (List.mem_cons_of_mem _ hb)) (by simpa using hl),outR_cons]
  omega
theorem sumR_ends {R:Int→Bool} {g:Int→Int} {s t:Int} (n:Nat) (hs:R s=true) (ht:R t=false) (h0:0≤s) (h1:s<n) (hg: ∀ v:Int,0≤v→v<n→v≠s→v≠t→g v=0):sumR R g n=g s:=by
 have aux: ∀ m:Nat,m≤n→sumR R g m=if s<m then g s else 0:=by
  intro m
  induction m with
  |zero=>intro _;rw[if_neg (by omega)];rfl
  |succ m ih=>
   intro hm
   unfold sumR
   rw[ih (by omega)]
   show _+(if R m then g m else 0)=_
   by_cases e:s=(m:Int)
   ·subst e
    rw[if_neg (Int.lt_irrefl _),if_pos hs,if_pos (show (m:Int)<((m+1:Nat):Int) by omega)]
    omega
   ·have e2:(if R m then g m else 0)=0:=by
     by_cases e3:t=(m:Int)
     ·rw[← e3,ht];rfl
     ·rw[hg m (by omega) (by omega) (Ne.symm e) (Ne.symm e3)];split<;>rfl
    rw[e2]
    by_cases h:s<(m:Int)
    ·rw[if_pos h,if_pos (show s<((m+1:Nat):Int) by omega)];omega
    ·rw[if_neg h,if_neg (show ¬ s<((m+1:Nat):Int) by omega)];omega
 rw[aux n (Nat.le_refl _),if_pos h1]
theorem outR_le (R:Int→Bool): ∀ (l:List S74) (f:List Int),flowB l f=true→outR R l f≤capR R l
 |[],[],_=>by simp[outR,capR]
 |[],_::_,h=>by simp[flowB] at h
 |_::_,[],h=>by simp[flowB] at h
 |a::l,x::f,h=>by
  unfold flowB at h
  split at h
  ·cases h
  ·split at h
   ·cases h
   ·have:=outR_le R l f h
    rw[outR_cons,capR_cons]
    cases R a.f0<;>cases R a.f1<;>simp<;>omega
def Tightly (R:Int→Bool) (l:List S74) (f:List Int):Prop:= ∀ i:Nat,i<l.length→(R (rd_T74 l i).f0=true→R (rd_T74 l i).f1=false→f.getD i 0=(rd_T74 l i).f2)∧(R (rd_T74 l i).f0=false→R (rd_T74 l i).f1=true→f.getD i 0=0)
theorem outR_eq (R:Int→Bool): ∀ (l:List S74) (f:List Int),f.length=l.length→Tightly R l f→outR R l f=capR R l
 |[],[],_,_=>by simp[outR,capR]
 |[],_::_,h,_=>by simp at h
 |_::_,[],h,_=>by simp at h
 |a::l,x::f,h,ht=>by
  have h0:=ht 0 (by simp)
  have e:rd_T74 (a::l) ((0:Nat):Int)=a:=rfl
  rw[e] at h0
  simp only[List.getD_cons_zero] at h0
  have ih:=outR_eq R l f (by simpa using h) (fun i hi=>by
   have h1:=ht (i+1) (by simp;omega)
   have e:rd_T74 (a::l) ((i+1:Nat):Int)=rd_T74 l (i:Int):=by rw[rdArc_nat,rdArc_nat];rfl
   rw[e] at h1
   simpa using h1)
  rw[outR_cons,ih,capR_cons]
  cases h1:R a.f0<;>cases h2:R a.f1
  ·simp
  ·have:=h0.2 h1 h2;simp[this]
  ·have:=h0.1 h1 h2;simp[this]
  ·simp
structure IsFlow (l:List S74) (F:List Int) (n:Nat) (s t:Int):Prop where
 right:Right l F n
 keeps: ∀ v:Int,0≤v→v<n→v≠s→v≠t→bal l F v=0
theorem ends_arcs {l:List S74} {n:Nat} (h:ends l n): ∀ a,a∈l→(0≤a.f0∧a.f0<n)∧0≤a.f1∧a.f1<n:=by
 intro a ha
 obtain⟨i,hi,e⟩:=List.getElem_of_mem ha
 have h1:=h i hi
 unfold eFrom eTo at h1
 rw[rdArc_nat,List.getD_eq_getElem?_getD,List.getElem?_eq_getElem hi] at h1
 have e2:(some l[i]).getD z74=a:=e
 rw[e2] at h1
 exact h1
theorem Right.flowB {l:List S74} {F:List Int} {n:Nat} (h:Right l F n):flowB l F=true:=by
 have hl:=h.len
 refine flow_mk hl fun i hi=> ?_
 have:=h.nums i (by omega)
 rw[rdArc_nat] at this
 exact⟨this.2.2.1,this.2.2.2.1⟩
theorem value_le {l:List S74} {F:List Int} {n:Nat} {s t:Int} (h:IsFlow l F n s t) (R:Int→Bool) (hs:R s=true) (ht:R t=false) (h0:0≤s) (h1:s<n):bal l F s≤capR R l:=by
 rw[← sumR_ends n hs ht h0 h1 h.keeps,sum_bal R n l F (ends_arcs h.right.ends) h.right.len]
 exact outR_le R l F h.right.flowB
theorem value_eq {l:List S74} {F:List Int} {n:Nat} {s t:Int} (h:IsFlow l F n s t) (R:Int→Bool) (hs:R s=true) (ht:R t=false) (h0:0≤s) (h1:s<n)
  (hR: ∀ e:S38,StepOf l e→0<stRoom l F e→R (stFrom l e)=true→R (stTo l e)=true):bal l F s=capR R l:=by
 rw[← sumR_ends n hs ht h0 h1 h.keeps,sum_bal R n l F (ends_arcs h.right.ends) h.right.len]
 refine outR_eq R l F h.right.len fun i hi=> ?_
 have hn:=h.right.nums i hi
 have hf:=hR ⟨i,false⟩ ⟨i,hi,rfl⟩
 have hb:=hR ⟨i,true⟩ ⟨i,hi,rfl⟩
 unfold stRoom stFrom stTo eFrom eTo at hf hb
 simp only[Bool.false_eq_true,if_false,if_true,Int.toNat_natCast] at hf hb
 refine⟨fun a b=> ?_,fun a b=> ?_⟩
 ·have: ¬ 0<(rd_T74 l i).f2 - F.getD i 0:=fun g=>by have:=hf g a;rw[b] at this;cases this
  omega
 ·have: ¬ 0<F.getD i 0:=fun g=>by have:=hb g b;rw[a] at this;cases this
  omega
theorem capR_top (R:Int→Bool): ∀ (l:List S74),(∀ a,a∈l→0≤a.f2∧a.f2≤1048576)→0≤capR R l∧capR R l≤1048576 * l.length
 |[],_=>by simp[capR]
 |a::l,h=>by
  have h1:=h a List.mem_cons_self
  have h2:=capR_top R l fun b hb=>h b (List.mem_cons_of_mem _ hb)
  rw[List.length_cons,capR_cons]
  split<;>omega
theorem Right.caps {l:List S74} {F:List Int} {n:Nat} (h:Right l F n): ∀ a,a∈l→0≤a.f2∧a.f2≤1048576:=by
 intro a ha
 obtain⟨i,hi,e⟩:=List.getElem_of_mem ha
 have h1:=h.nums i hi
 rw[rdArc_nat,List.getD_eq_getElem?_getD,List.getElem?_eq_getElem hi] at h1
 have e2:(some l[i]).getD z74=a:=e
 rw[e2] at h1
 omega
end Go.Proofs.Ytkcpanpdipmmmaa.H
namespace Go.Proofs.Ytkcpanpdipmmmaa.H
open Go.RowKit Go.Proofs.YtkcpanpdipmmmaaW.PrintWords Go.Proofs.YtkcpanpdipmmmaaW.PrintLast Go.Proofs.YtkcpanpdipmmmaaW.PrintMore Go.Proofs.Ytkcpanpdipmmmaa.P Go.Proofs.Ytkcpanpdipmmmaa.Q
def esP (l:List S74) (F:List Int) (u:Nat):List S38:=(stL l u l.length).filter fun e=>decide (0<stRoom l F e)
def toP (l:List S74) (e:S38):Nat:=(stTo l e).toNat
def frP (l:List S74) (e:S38):Nat:=(stFrom l e).toNat
def bfP (l:List S74) (F:List Int) (n s:Nat):List (Fd S38):=bfsN (toP l) (esP l F) z38 n s
theorem mem_esP {l:List S74} {F:List Int} {u:Nat} {e:S38} :e∈esP l F u↔e∈stL l u l.length∧0<stRoom l F e:=by
 unfold esP;rw[List.mem_filter,decide_eq_true_eq]
theorem frP_of {l:List S74} {u:Nat} {e:S38} (h:e∈stL l u l.length):frP l e=u:=by
 unfold frP;rw[stL_from h,Int.toNat_natCast]
theorem toP_lt {l:List S74} {F:List Int} {n:Nat} (hr:Right l F n) {s:S38} (hs:StepOf l s):toP l s<n:=by
 have:=stTo_in hr hs;unfold toP;omega
theorem esP_to {l:List S74} {F:List Int} {n:Nat} (hr:Right l F n): ∀ (u:Nat) (e:S38),e∈esP l F u→toP l e<n:=fun u e he=>toP_lt hr (stL_of (mem_esP.1 he).1)
theorem esP_fr {l:List S74} {F:List Int} : ∀ (u:Nat) (e:S38),e∈esP l F u→frP l e=u:=fun u e he=>frP_of (mem_esP.1 he).1
theorem esP_of {l:List S74} {F:List Int} {n:Nat} (hr:Right l F n) {e:S38} (hs:StepOf l e) (h:0<stRoom l F e):e∈esP l F (frP l e):=by
 refine mem_esP.2 ⟨?_,h⟩
 have hf:=stFrom_in hr hs
 rw[mem_stL]
 unfold frP
 rw[Int.toNat_of_nonneg hf.1]
 obtain⟨i,h1,h2⟩:=hs
 refine⟨i,h1,h2,?_⟩
 unfold stFrom
 rw[h2]
 cases e.f1
 ·exact .inl ⟨rfl,rfl⟩
 ·exact .inr ⟨rfl,rfl⟩
theorem bfP_upto {l:List S74} {F:List Int} {n s:Nat} (hr:Right l F n) (hs:s<n):Upto (frP l) (toP l) (esP l F) s (bfP l F n s).length (bfP l F n s):=bfsN_upto (esP_to hr) hs
theorem bfP_head {l:List S74} {F:List Int} {n s:Nat} (hr:Right l F n) (hs:s<n): ∃ x,x∈bfP l F n s∧x.v=s∧x.lv=0:=by
 obtain⟨x,r,h1,h2,h3⟩:=(bfP_upto hr hs).fds.head
 exact⟨x,by rw[h1];exact List.mem_cons_self,h2,h3⟩
def netG (l:List S74) (F D:List Int):Net_ S38:=⟨fun v=>stL l v l.length,toP l,frP l,fun v=>D.getD v 0,fun e=>decide (0<stRoom l F e)⟩
theorem netG_fine {l:List S74} {F F0:List Int} {n s:Nat} (hr:Right l F0 n) (hs:s<n):(netG l F (dOf n (bfP l F0 n s))).Fine s n:=by
 have hu:=bfP_upto hr hs
 refine⟨fun u e he=>frP_of he,fun u e he=>toP_lt hr (stL_of he),hs,?_,fun v hv=> ?_⟩
 ·obtain⟨x,h1,h2,h3⟩:=bfP_head hr hs
  show (dOf n _).getD s 0=0
  have h4:=dOf_mem hu.fds.nodup h1 0 (by rw[h2];exact hs)
  rw[h2,h3] at h4
  exact h4
 ·show (dOf n _).getD v 0<n
  rw[dOf_get _ _ hv]
  cases hf:fnd (bfP l F0 n s) v with
  |none=>simp only;omega
  |some x=>
   have h1:=lv_lt hu.fds (fnd_some hf).1
   have h2:=fds_len hu.fds (esP_to hr) hs
   simp only
   omega
def phaseF (l:List S74) (D:List Int) (s t:Nat):Nat→List Int→List Nat→List Int
 |0,F,_=>F
 |k+1,F,nx=>match downG (netG l F D) s t 2000000 s [] nx with
  |(none,_)=>F
  |(some L,nx')=>phaseF l D s t k (pushW F (leastR l F L) L) nx'
def refillF (l:List S74) (n s t:Nat):Nat→List Int→List Int
 |0,F=>F
 |k+1,F=>if (dOf n (bfP l F n s)).getD t 0<0 then F else refillF l n s t k (phaseF l (dOf n (bfP l F n s)) s t 300000000 F (List.replicate n 0))
def fillF (l:List S74) (n s t:Nat):List Int:=refillF l n s t 300000000 (List.replicate l.length 0)
theorem remG_le (g:Net_ S38) (nx:List Nat) (h: ∀ v,(g.rows v).length≤400) (n:Nat):remG g nx n≤400 * n:=by
 induction n with
 |zero=>exact Nat.le_refl _
 |succ n ih=>unfold remG;have:=h n;omega
theorem downM_lt {l:List S74} {F D:List Int} {n v:Nat} (h:l.length≤200) (hn:n≤50) (nx:List Nat):downM (netG l F D) n v nx<2000000:=by
 have h1:=remG_le (netG l F D) nx (fun v=>by have:=stL_len l v l.length;show (stL l v l.length).length≤400;omega) n
 have h2:remG (netG l F D) nx n * (n+1)≤20000 * 51:=Nat.mul_le_mul (by omega) (by omega)
 unfold downM
 omega
theorem leads_trail {l:List S74} {F:List Int} {n:Nat} (hr:Right l F n) {rows:Nat→List S38} (hrows: ∀ u e,e∈rows u→e∈stL l u l.length): ∀ {L:List S38} {s t:Nat},Leads (toP l) rows s L t→Trail l s L t
 |[],s,t,h=>by cases h;rfl
 |x::L,s,t,h=>by
  have hx:=hrows _ _ h.1
  refine⟨stL_of hx,stL_from hx,?_⟩
  have h1:=stTo_in hr (stL_of hx)
  have h2:=leads_trail hr hrows h.2
  unfold toP at h2
  rw[Int.toNat_of_nonneg h1.1] at h2
  exact h2
structure NxOk (l:List S74) (n:Nat) (nx:List Nat):Prop where
 len:nx.length=n
 le: ∀ u,u<n→nx.getD u 0≤(stL l u l.length).length
theorem nx_zero (l:List S74) (n:Nat):NxOk l n (List.replicate n 0):=
 ⟨by simp,fun u hu=>by rw[List.getD_eq_getElem?_getD,List.getElem?_replicate,if_pos hu];exact Nat.zero_le _⟩
theorem dinv_start {l:List S74} {F D:List Int} {n s:Nat} {nx:List Nat} (hs:s<n) (h:NxOk l n nx):DInv (netG l F D) s n s [] nx:=
 ⟨hs,h.len,h.le,rfl,fun e he=>(by cases he),fun e he=>(by cases he)⟩
theorem push_found {l:List S74} {F F0:List Int} {n s t:Nat} (hf:IsFlow l F n s t) (hr0:Right l F0 n) (hs:s<n) (hst:s≠t) {L:List S38}
  (hL:Leads (toP l) (fun v=>stL l v l.length) s L t) (ha: ∀ e,e∈L→(netG l F (dOf n (bfP l F0 n s))).adm (frP l e) e=true):
  IsFlow l (pushW F (leastR l F L) L) n s t∧1≤leastR l F L∧L≠[]∧bal l (pushW F (leastR l F L) L) s=bal l F s+leastR l F L∧L.Pairwise (fun a b=>a.f0≠b.f0)∧(∀ s,s∈L→StepOf l s)∧leastR l F L≤1048576:=by
 have hne:L≠[]:=by rintro rfl;exact hst hL
 have htr:=leads_trail hf.right (rows:=fun v=>stL l v l.length) (fun _ _ h=>h) hL
 have hroom: ∀ e,e∈L→0<stRoom l F e:=fun e he=>of_decide_eq_true (adm_lv (ha e he)).2
 obtain⟨m,hm,hle⟩:=leastR_in (l:=l) (F:=F) hne
 have h1:1≤leastR l F L:=by rw[hle];exact hroom m hm
 have hap:=(rises_apart (l:=l) (fun v=>(dOf n (bfP l F0 n s)).getD v.toNat 0) htr (fun e he=>(adm_lv (ha e he)).1)).1
 have hr:=Right.pushW (k:=leastR l F L) (by omega) L hf.right (fun e he=>⟨htr.of e he,leastR_le he⟩) hap
 have hb:=fun v=>bal_pushW (leastR l F L) v hf.right.len htr
 have hmx:=(stRoom_in hf.right (htr.of m hm)).2
 refine⟨⟨hr,fun v h0 h1 h2 h3=> ?_⟩,h1,hne,?_,hap,htr.of,by omega⟩
 ·rw[hb,if_neg h2,if_neg h3,hf.keeps v h0 h1 h2 h3];rfl
 ·rw[hb,if_pos rfl,if_neg (by omega)];omega
theorem flow_top {l:List S74} {F:List Int} {n s t:Nat} (hf:IsFlow l F n s t) (hs:s<n) (hst:s≠t):bal l F s≤209715200:=by
 have h1:=value_le hf (fun v=>decide (v=(s:Int))) (by simp) (by simp;omega) (by omega) (by omega)
 have h2:=capR_top (fun v=>decide (v=(s:Int))) l hf.right.caps
 have h3:=hf.right.arcs
 have h4:1048576 * (l.length:Int)≤1048576 * 200:=by omega
 omega
structure PhaseOk (l:List S74) (F0:List Int) (n s t:Nat) (F:List Int):Prop where
 flow:IsFlow l F n s t
 more:bal l F0 s≤bal l F s
theorem phase_step {l:List S74} {F D:List Int} {s t k:Nat} {nx nx':List Nat} {L:List S38} (h:downG (netG l F D) s t 2000000 s [] nx=(some L,nx')):phaseF l D s t (k+1) F nx=phaseF l D s t k (pushW F (leastR l F L) L) nx':=by
 show (match downG (netG l F D) s t 2000000 s [] nx with|(none,_)=>F|(some L,nx')=>phaseF l D s t k (pushW F (leastR l F L) L) nx')=_
 rw[h]
theorem phase_end {l:List S74} {F D:List Int} {s t k:Nat} {nx nx':List Nat} (h:downG (netG l F D) s t 2000000 s [] nx=(none,nx')):phaseF l D s t (k+1) F nx=F:=by
 show (match downG (netG l F D) s t 2000000 s [] nx with|(none,_)=>F|(some L,nx')=>phaseF l D s t k (pushW F (leastR l F L) L) nx')=_
 rw[h]
theorem phase_flow {l:List S74} {F0:List Int} {n s t:Nat} (hr0:Right l F0 n) (hs:s<n) (hst:s≠t) (k:Nat): ∀ {F:List Int} {nx:List Nat},IsFlow l F n s t→NxOk l n nx→PhaseOk l F n s t (phaseF l (dOf n (bfP l F0 n s)) s t k F nx):=by
 induction k with
 |zero=>intro F nx hf _;exact⟨hf,Int.le_refl _⟩
 |succ k ih=>
  intro F nx hf hnx
  have hfd:=downG_found (t:=t) (netG_fine (F:=F) hr0 hs) 2000000 (dinv_start (F:=F) (D:=dOf n (bfP l F0 n s)) hs hnx) (downM_lt hf.right.arcs hf.right.fifty nx)
  cases hd:downG (netG l F (dOf n (bfP l F0 n s))) s t 2000000 s [] nx with
  |mk r nx'=>
   rw[hd] at hfd
   cases r with
   |none=>rw[phase_end hd];exact⟨hf,Int.le_refl _⟩
   |some L=>
    rw[phase_step hd]
    obtain⟨h1,h2⟩:=hfd.way L rfl
    obtain⟨p1,p2,p3,p4,_⟩:=push_found hf hr0 hs hst h1 h2
    obtain⟨q1,q2⟩:=ih (nx:=nx') p1 ⟨hfd.len,hfd.le⟩
    exact⟨q1,by omega⟩
theorem phase_first {l:List S74} {F:List Int} {n s t:Nat} (hr:Right l F n) (hs:s<n) (ht:t<n) (hst:s≠t) (hd:0≤(dOf n (bfP l F n s)).getD t 0): ∃ L nx',downG (netG l F (dOf n (bfP l F n s))) s t 2000000 s [] (List.replicate n 0)=(some L,nx'):=by
 have hu:=bfP_upto hr hs
 have hfine:=netG_fine (F:=F) hr hs
 have hi:=dinv_start (F:=F) (D:=dOf n (bfP l F n s)) hs (nx_zero l n)
 have hfd:=downG_found (t:=t) hfine 2000000 hi (downM_lt hr.arcs hr.fifty _)
 have hdd:=downG_dead (t:=t) hfine 2000000 hi (downM_lt hr.arcs hr.fifty _) (fun u hu j hj=>by
  rw[List.getD_eq_getElem?_getD,List.getElem?_replicate,if_pos hu] at hj
  exact absurd hj (Nat.not_lt_zero _))
 cases he:downG (netG l F (dOf n (bfP l F n s))) s t 2000000 s [] (List.replicate n 0) with
 |mk r nx'=>
  cases r with
  |some L=>exact⟨L,nx',rfl⟩
  |none=>
   exfalso
   rw[he] at hfd hdd
   have hmem:t∈nodes (bfP l F n s):=Classical.byContradiction fun h=>by have:=(dOf_neg (bfP l F n s) 0 ht).2 h;omega
   obtain⟨x,hx,hxv⟩:=List.mem_map.1 hmem
   have hle:=Nat.le_of_lt (lv_lt hu.fds hx)
   obtain⟨_,hle2⟩:=backL_spec hu.fds esP_fr (bfP l F n s).length hx hle
   have hlv:=backL_lv hu.fds esP_fr (bfP l F n s).length hx
   rw[hxv] at hle2 hlv
   have hmono: ∀ {L:List S38} {a b:Nat},Leads (toP l) (esP l F) a L b→Leads (toP l) (fun v=>stL l v l.length) a L b:=by
    intro L
    induction L with
    |nil=>intro a b h;exact h
    |cons y L ih=>intro a b h;exact⟨(mem_esP.1 h.1).1,ih h.2⟩
   refine dead_way (g:=netG l F (dOf n (bfP l F n s))) hfine.hfr hdd (hmono hle2) (fun e hein=> ?_) ⟨hst,hs,hfd.none_ rfl⟩
   obtain⟨y,z,hy,hz,h1,h2,h3,h4⟩:=hlv e (List.mem_reverse.1 hein)
   have hln:=fds_lt hu.fds (esP_to hr) hs
   have g1:(dOf n (bfP l F n s)).getD (toP l e) 0=y.lv:=by rw[← h1];exact dOf_mem hu.fds.nodup hy 0 (hln _ (List.mem_map_of_mem hy))
   have g2:(dOf n (bfP l F n s)).getD (frP l e) 0=z.lv:=by rw[← h2];exact dOf_mem hu.fds.nodup hz 0 (hln _ (List.mem_map_of_mem hz))
   show (decide ((dOf n (bfP l F n s)).getD (toP l e) 0=(dOf n (bfP l F n s)).getD (frP l e) 0+1) && decide (0<stRoom l F e))=true
   rw[g1,g2,Bool.and_eq_true,decide_eq_true_eq,decide_eq_true_eq]
   exact⟨by omega,(mem_esP.1 h4).2⟩
theorem phase_grows {l:List S74} {F:List Int} {n s t:Nat} (hf:IsFlow l F n s t) (hs:s<n) (ht:t<n) (hst:s≠t) (hd:0≤(dOf n (bfP l F n s)).getD t 0) (k:Nat):
  IsFlow l (phaseF l (dOf n (bfP l F n s)) s t (k+1) F (List.replicate n 0)) n s t∧bal l F s+1≤bal l (phaseF l (dOf n (bfP l F n s)) s t (k+1) F (List.replicate n 0)) s:=by
 obtain⟨L,nx',he⟩:=phase_first hf.right hs ht hst hd
 have hfd:=downG_found (t:=t) (netG_fine (F:=F) hf.right hs) 2000000 (dinv_start (F:=F) (D:=dOf n (bfP l F n s)) hs (nx_zero l n)) (downM_lt hf.right.arcs hf.right.fifty _)
 rw[he] at hfd
 rw[phase_step he]
 obtain⟨h1,h2⟩:=hfd.way L rfl
 obtain⟨p1,p2,p3,p4,_⟩:=push_found hf hf.right hs hst h1 h2
 obtain⟨q1,q2⟩:=phase_flow hf.right hs hst k (nx:=nx') p1 ⟨hfd.len,hfd.le⟩
 exact⟨q1,by omega⟩
structure MaxF (l:List S74) (F:List Int) (n s t:Nat):Prop where
 flow:IsFlow l F n s t
 cut:t ∉ nodes (bfP l F n s)
theorem refill_max {l:List S74} {n s t:Nat} (hs:s<n) (ht:t<n) (hst:s≠t) (k:Nat): ∀ {F:List Int},IsFlow l F n s t→209715200 - bal l F s<k→MaxF l (refillF l n s t k F) n s t:=by
 induction k with
 |zero=>intro F hf hk;have:=flow_top hf hs hst;omega
 |succ k ih=>
  intro F hf hk
  unfold refillF
  by_cases h:(dOf n (bfP l F n s)).getD t 0<0
  ·rw[if_pos h]
   exact⟨hf,(dOf_neg _ _ ht).1 h⟩
  ·rw[if_neg h]
   obtain⟨h1,h2⟩:=phase_grows hf hs ht hst (by omega) 299999999
   rw[show 299999999+1=300000000 from rfl] at h1 h2
   exact ih h1 (by omega)
theorem zeros_flow {l:List S74} {n s t:Nat} (h0:0<n) (h50:n≤50) (hl:l.length≤200) (he:ends l n) (hn: ∀ i:Nat,i<l.length→0≤(rd_T74 l i).f3∧(rd_T74 l i).f3≤1048576∧0≤(rd_T74 l i).f2∧(rd_T74 l i).f2≤1048576):
  IsFlow l (List.replicate l.length 0) n s t∧bal l (List.replicate l.length 0) s=0:=by
 have hz: ∀ (l:List S74) (v:Int),bal l (List.replicate l.length 0) v=0:=by
  intro l v
  induction l with
  |nil=>rfl
  |cons a l ih=>rw[List.length_cons,List.replicate_succ,bal_cons,ih];split<;>split<;>rfl
 refine⟨⟨⟨h0,h50,hl,by simp,he,fun i hi=> ?_⟩,fun v _ _ _ _=>hz l v⟩,hz l _⟩
 have:=hn i hi
 have e:(List.replicate l.length (0:Int)).getD i 0=0:=by rw[List.getD_eq_getElem?_getD,List.getElem?_replicate,if_pos hi];rfl
 rw[e]
 omega
def sideP (l:List S74) (F:List Int) (n s:Nat) (v:Int):Bool:=decide (0≤v∧v.toNat∈nodes (bfP l F n s))
theorem side_closed {l:List S74} {F:List Int} {n s:Nat} (hr:Right l F n) (hs:s<n): ∀ e:S38,StepOf l e→0<stRoom l F e→sideP l F n s (stFrom l e)=true→sideP l F n s (stTo l e)=true:=by
 intro e he hroom h
 unfold sideP at h ⊢
 rw[decide_eq_true_eq] at h ⊢
 obtain⟨x,hx,hxv⟩:=List.mem_map.1 h.2
 have h1:=esP_of hr he hroom
 have h2:frP l e=x.v:=hxv.symm
 rw[h2] at h1
 obtain⟨y,hy,h3,_⟩:=bfsN_closed (z:=z38) (esP_to hr) hs hx h1
 have h4:=stTo_in hr he
 exact⟨h4.1,List.mem_map.2 ⟨y,hy,h3⟩⟩
theorem max_value {l:List S74} {F:List Int} {n s t:Nat} (h:MaxF l F n s t) (hs:s<n) (hst:s≠t):bal l F s=capR (sideP l F n s) l∧sideP l F n s s=true∧sideP l F n s t=false:=by
 have h1:sideP l F n s s=true:=by
  obtain⟨x,hx,hxv,_⟩:=bfP_head h.flow.right hs
  unfold sideP
  rw[decide_eq_true_eq]
  exact⟨by omega,by rw[Int.toNat_natCast];exact List.mem_map.2 ⟨x,hx,hxv⟩⟩
 have h2:sideP l F n s t=false:=by
  unfold sideP
  rw[decide_eq_false_iff_not,Int.toNat_natCast]
  exact fun g=>h.cut g.2
 exact⟨value_eq h.flow _ h1 h2 (by omega) (by omega) (side_closed h.flow.right hs),h1,h2⟩
theorem max_top {l:List S74} {F G:List Int} {n s t:Nat} (h:MaxF l F n s t) (hs:s<n) (hst:s≠t) (hg:IsFlow l G n s t):bal l G s≤bal l F s:=by
 obtain⟨h1,h2,h3⟩:=max_value h hs hst
 rw[h1]
 exact value_le hg _ h2 h3 (by omega) (by omega)
end Go.Proofs.Ytkcpanpdipmmmaa.H
namespace Go.Proofs.Ytkcpanpdipmmmaa.H
open Go.RowKit Go.Proofs.YtkcpanpdipmmmaaW.PrintWords Go.Proofs.YtkcpanpdipmmmaaW.PrintLast Go.Proofs.YtkcpanpdipmmmaaW.PrintMore Go.Proofs.Ytkcpanpdipmmmaa.P Go.Proofs.Ytkcpanpdipmmmaa.Q
structure Seen (l:List S74) (F:List Int) (n s:Nat) (t:Int) (st:List (Fd S38)):Prop where
 pre: ∃ r,bfP l F n s=st ++ r
 fds:Fds (frP l) (toP l) (esP l F) s st
 hit:st=bfP l F n s∨ ∃ tn:Nat,t=tn∧tn∈nodes st
structure Lp (l:List S74) (F:List Int) (n s:Nat) (t:Int) (st:List (Fd S38)) (i:Nat):Prop where
 upto:Upto (frP l) (toP l) (esP l F) s i st
 rest:bfs (toP l) (esP l F) (n - i) i st=bfP l F n s
 ile:i≤st.length
 nott: ∀ tn:Nat,t=tn→tn ∉ nodes st
structure Li (l:List S74) (F:List Int) (n s:Nat) (t:Int) (x:Fd S38) (X stj:List (Fd S38)) (i j:Nat):Prop where
 fds:Fds (frP l) (toP l) (esP l F) s stj
 mst: ∀ y,y∈stj→y.lv≤x.lv+1
 at_:stj[i]? =some x
 tail:(((stL l x.v l.length).drop j).filter fun e=>decide (0<stRoom l F e)).foldl (vis (toP l) x.lv) stj=X
 nott: ∀ tn:Nat,t=tn→tn ∉ nodes stj
section
variable {l:List S74} {F:List Int} {n s:Nat} {t:Int}
theorem lp_start (hs:s<n) (ht:t≠s):Lp l F n s t [⟨s,z38,0⟩] 0:=
 ⟨upto_start _ _ _ _ _,rfl,Nat.zero_le _,fun tn e hm=>by simp[nodes] at hm;omega⟩
theorem Lp.seen {st:List (Fd S38)} {i:Nat} (h:Lp l F n s t st i) (hi:i=st.length):Seen l F n s t st:=by
 have e:st=bfP l F n s:=by
  rw[← h.rest]
  cases n - i with
  |zero=>rfl
  |succ k=>unfold bfs;rw[List.getElem?_eq_none (by omega)]
 exact⟨⟨[],by rw[List.append_nil, ← e]⟩,h.upto.fds, .inl e⟩
theorem Lp.len (hr:Right l F n) (hs:s<n) {st:List (Fd S38)} {i:Nat} (h:Lp l F n s t st i):st.length≤n:=fds_len h.upto.fds (esP_to hr) hs
theorem Lp.inner {st:List (Fd S38)} {i:Nat} (h:Lp l F n s t st i) {x:Fd S38} (hx:st[i]? =some x):Li l F n s t x (proc (toP l) (esP l F) st x) st i 0:=
 ⟨h.upto.fds,h.upto.most x hx,hx,by rw[List.drop_zero];rfl,h.nott⟩
theorem Li.next (hr:Right l F n) (hs:s<n) {st:List (Fd S38)} {i:Nat} (h:Lp l F n s t st i) {x:Fd S38} (hx:st[i]? =some x) {stj:List (Fd S38)} (hj:Li l F n s t x (proc (toP l) (esP l F) st x) stj i (stL l x.v l.length).length):Lp l F n s t stj (i+1):=by
 have e:stj=proc (toP l) (esP l F) st x:=by
  have:=hj.tail
  rw[List.drop_of_length_le (Nat.le_refl _)] at this
  exact this
 have hil:=(List.getElem?_eq_some_iff.1 hx).1
 have hl:=h.len hr hs
 refine⟨by rw[e];exact h.upto.next hx,?_,?_,hj.nott⟩
 ·have hrest:=h.rest
  rw[show n - i=(n - (i+1))+1 by omega] at hrest
  rw[e, ← hrest]
  rw[bfs,hx]
 ·have:=(List.getElem?_eq_some_iff.1 hj.at_).1
  omega
theorem row_drop {x:Fd S38} {j:Nat} {e:S38} (he:(stL l x.v l.length)[j]? =some e):(stL l x.v l.length).drop j=e::(stL l x.v l.length).drop (j+1):=by
 obtain⟨hlt,h⟩:=List.getElem?_eq_some_iff.1 he
 rw[List.drop_eq_getElem_cons hlt,h]
theorem Li.skip {x:Fd S38} {X stj:List (Fd S38)} {i j:Nat} (h:Li l F n s t x X stj i j) {e:S38} (he:(stL l x.v l.length)[j]? =some e) (h0: ¬ 0<stRoom l F e∨toP l e∈nodes stj):Li l F n s t x X stj i (j+1):=by
 refine⟨h.fds,h.mst,h.at_,?_,h.nott⟩
 have ht:=h.tail
 rw[row_drop he,List.filter_cons] at ht
 by_cases hr:0<stRoom l F e
 ·rw[if_pos (by simpa using hr),List.foldl_cons] at ht
  have hv:vis (toP l) x.lv stj e=stj:=by unfold vis;rw[if_pos (h0.resolve_left (fun h=>h hr))]
  rw[hv] at ht
  exact ht
 ·rw[if_neg (by simpa using hr)] at ht
  exact ht
theorem Li.add {x:Fd S38} {X stj:List (Fd S38)} {i j:Nat} (h:Li l F n s t x X stj i j) {e:S38} (he:(stL l x.v l.length)[j]? =some e) (hr:0<stRoom l F e) (hn:toP l e ∉ nodes stj):
  Fds (frP l) (toP l) (esP l F) s (stj ++ [⟨toP l e,e,x.lv+1⟩])∧(∀ y,y∈stj ++ [⟨toP l e,e,x.lv+1⟩]→y.lv≤x.lv+1)∧(((stL l x.v l.length).drop (j+1)).filter fun e=>decide (0<stRoom l F e)).foldl (vis (toP l) x.lv) (stj ++ [⟨toP l e,e,x.lv+1⟩])=X∧(stj ++ [⟨toP l e,e,x.lv+1⟩])[i]? =some x:=by
 have hv:vis (toP l) x.lv stj e=stj ++ [⟨toP l e,e,x.lv+1⟩]:=by unfold vis;rw[if_neg hn]
 obtain⟨h1,h2⟩:=h.fds.vis h.at_ h.mst (mem_esP.2 ⟨List.mem_of_getElem? he,hr⟩)
 rw[hv] at h1 h2
 have ht:=h.tail
 rw[row_drop he,List.filter_cons,if_pos (by simpa using hr),List.foldl_cons,hv] at ht
 exact⟨h1,h2,ht,by rw[List.getElem?_append_left (List.getElem?_eq_some_iff.1 h.at_).1];exact h.at_⟩
theorem Li.put {x:Fd S38} {X stj:List (Fd S38)} {i j:Nat} (h:Li l F n s t x X stj i j) {e:S38} (he:(stL l x.v l.length)[j]? =some e) (hr:0<stRoom l F e) (hn:toP l e ∉ nodes stj) (ht:t≠toP l e):Li l F n s t x X (stj ++ [⟨toP l e,e,x.lv+1⟩]) i (j+1):=by
 obtain⟨h1,h2,h3,h4⟩:=h.add he hr hn
 refine⟨h1,h2,h4,h3,fun tn etn hm=> ?_⟩
 rw[nodes_app] at hm
 rcases List.mem_append.1 hm with hm|hm
 ·exact h.nott tn etn hm
 ·simp[nodes] at hm
  exact ht (by rw[etn,hm])
theorem Li.found {st:List (Fd S38)} {i:Nat} (hp:Lp l F n s t st i) {x:Fd S38} (hx:st[i]? =some x) (hi:i<n) {stj:List (Fd S38)} {j:Nat} (h:Li l F n s t x (proc (toP l) (esP l F) st x) stj i j) {e:S38} (he:(stL l x.v l.length)[j]? =some e) (hr:0<stRoom l F e) (hn:toP l e ∉ nodes stj) (ht:t=toP l e):
  Seen l F n s t (stj ++ [⟨toP l e,e,x.lv+1⟩]):=by
 obtain⟨h1,h2,h3,h4⟩:=h.add he hr hn
 refine⟨?_,h1, .inr ⟨toP l e,ht,by rw[nodes_app];exact List.mem_append_right _ (by simp[nodes])⟩⟩
 obtain⟨r,hr1⟩:=fold_pre (toP l) x.lv (((stL l x.v l.length).drop (j+1)).filter fun e=>decide (0<stRoom l F e)) (stj ++ [⟨toP l e,e,x.lv+1⟩])
 obtain⟨q,hq⟩:=bfs_pre (toP l) (esP l F) (n - (i+1)) (i+1) (proc (toP l) (esP l F) st x)
 have hrest:=hp.rest
 rw[show n - i=(n - (i+1))+1 by omega,bfs,hx] at hrest
 refine⟨r ++ q,?_⟩
 rw[← hrest]
 show bfs (toP l) (esP l F) (n - (i+1)) (i+1) (proc (toP l) (esP l F) st x)=_
 rw[hq, ← h3,hr1,List.append_assoc]
def qOf (st:List (Fd S38)) (i:Nat):List Int:=((nodes st).drop i).map fun v:Nat=>(v:Int)
theorem qOf_cons {st:List (Fd S38)} {i:Nat} {x:Fd S38} (hx:st[i]? =some x):qOf st i=(x.v:Int)::qOf st (i+1):=by
 obtain⟨hlt,h⟩:=List.getElem?_eq_some_iff.1 hx
 unfold qOf nodes
 rw[List.drop_eq_getElem_cons (by simpa using hlt),List.map_cons,List.getElem_map,h]
theorem qOf_snoc {st:List (Fd S38)} {i:Nat} (hi:i≤st.length) (y:Fd S38):qOf (st ++ [y]) i=qOf st i ++ [(y.v:Int)]:=by
 unfold qOf
 rw[nodes_app,List.drop_append_of_le_length (by unfold nodes;simpa using hi),List.map_append]
 rfl
end
end Go.Proofs.Ytkcpanpdipmmmaa.H
namespace Go.Proofs.Ytkcpanpdipmmmaa.P
open Go.RowKit Go.Proofs.YtkcpanpdipmmmaaW.PrintWords Go.Proofs.YtkcpanpdipmmmaaW.PrintLast Go.Proofs.YtkcpanpdipmmmaaW.PrintMore
attribute [local go_sem] max2_int min2_int max_two min_two max_three min_three max_four min_four
def pile_room.f (a0:Int):Option (Bool):=if a0≥0 then(some (decide (a0≤65536))) else(some false)
set_option maxHeartbeats 8000000 in
set_option maxRecDepth 100000 in
theorem pile_room.calls (a0:Int) (r:Bool) (w:World) (h:pile_room.f a0=some r):
  Calls Try.prog 172 #[.int .i64 a0] w fun e w'=>e= .returned (.bool r)∧Drawn0 w w':=by
 have H:(if a0≥0 then(some (decide (a0≤65536))) else(some false))=some r:=h
 clear h
 by_cases c2:a0≥0
 rotate_left
 ·rw[if_neg c2] at H
  have c2b0:decide (0≤a0)=false:=decide_eq_false c2
  clear c2
  obtain rfl:=Option.some.inj H
  go_enter Try.func172,Try.ntmps172
  go_wp2
  go_ret
  exact⟨by first|rfl|(simp;done)|(simp[*];done),by repeat(first|exact Drawn0.refl _|apply Drawn0.step)⟩
 rw[if_pos c2] at H
 have c2b0:decide (0≤a0)=true:=decide_eq_true c2
 clear c2
 obtain rfl:=Option.some.inj H
 go_enter Try.func172,Try.ntmps172
 go_wp2
 go_ret
 exact⟨by first|rfl|(simp;done)|(simp[*];done),by repeat(first|exact Drawn0.refl _|apply Drawn0.step)⟩
end Go.Proofs.Ytkcpanpdipmmmaa.P
namespace Go.Proofs.Ytkcpanpdipmmmaa.H
open Go.RowKit Go.Proofs.YtkcpanpdipmmmaaW.PrintWords Go.Proofs.YtkcpanpdipmmmaaW.PrintLast Go.Proofs.YtkcpanpdipmmmaaW.PrintMore Go.Proofs.Ytkcpanpdipmmmaa.P
attribute [local irreducible] wpQuiet
theorem info3:(Try.prog.info? 3).map (fun i=>(i.zero,i.size,i.bytes))=some (some (.int .i64 0),1,8):=by kernel_rfl
def ringAt (X:Nat→Int) (m i:Nat):List Int:=(List.range i).map X ++ List.replicate (2 * m+4 - i) 0
theorem made_ring (X:Nat→Int) (m:Nat) (hm:m≤200): ∀ W:World,(Instr.makeSlice 25 (.int .i64 0) (.int .i64 (2 * (m:Int)+4))).run Try.prog W= .ok (.slice (some ⟨W.heap.size,0,none⟩) 0 (2 * m+4)) (W.alloc (.cells (nums .i64 (ringAt X m 0)).toArray 3)):=by
 intro W
 have er:ringAt X m 0=List.replicate (2 * m+4) 0:=by simp[ringAt]
 rw[er]
 obtain⟨i0,hi,hzz⟩:=Option.map_eq_some_iff.1 info3
 simp only[Prod.mk.injEq] at hzz
 obtain⟨hz0,hz1,hz2⟩:=hzz
 have hr:=run_make (P:=Try.prog) W 25 3 i0 (.int .i64 0) Try.underlying25 hi hz0 .i64 .i64 (0:Int) (2 * (m:Int)+4) (by omega) (by omega) (by rw[hz2];omega) (by omega)
 rw[hz1] at hr
 have e1:(2 * (m:Int)+4).toNat=2 * m+4:=by omega
 rw[e1] at hr
 have hl:(madeCells #[Value.int .i64 0] ((2 * m+4) * 1))=(nums .i64 (List.replicate (2 * m+4) 0)).toArray:=by
  apply Array.ext'
  apply List.ext_getElem
  ·simp[nums,madeCells]
  ·intro i h1 h2
   simp[nums,madeCells,Nat.mod_one]
 exact hr.trans (by rw[← hl];rfl)
theorem ringAt_len (X:Nat→Int) (m i:Nat) (h:i≤m):(ringAt X m i).length=2 * m+4:=by simp[ringAt];omega
theorem ringAt_set (X:Nat→Int) (m i:Nat) (h:i<m):(ringAt X m i).set i (X i)=ringAt X m (i+1):=by
 unfold ringAt
 rw[List.set_append_right _ _ (by simp),List.range_succ,List.map_append,List.append_assoc]
 congr 1
 simp only[List.length_map,List.length_range,Nat.sub_self,List.map_cons,List.map_nil,List.cons_append,List.nil_append]
 rw[show 2 * m+4 - i=(2 * m+4 - (i+1))+1 by omega,List.replicate_succ]
 rfl
set_option maxHeartbeats 1000000 in
set_option maxRecDepth 100000 in
theorem grow_nil (g:Nat) (w:World) (c0:w.cell? ⟨g,0,none⟩=some (.slice none 0 0)) (c2:w.cell? ⟨g,2,none⟩=some (.int .i64 0)) (f0:w.frozen? ⟨g,0,none⟩=false) (f1:w.frozen? ⟨g,1,none⟩=false) (c1:w.cell? ⟨g,1,none⟩=some (.int .i64 0)):
  Calls Try.prog 173 #[.pointer (some ⟨g,0,none⟩)] w fun e w'=>e= .returned (.tuple #[])∧w'=((w.alloc (.cells (nums .i64 (ringAt (fun _=>0) 0 0)).toArray 3)).setCell ⟨g,0,none⟩ (.slice (some ⟨w.heap.size,0,none⟩) 4 4)).setCell ⟨g,1,none⟩ (.int .i64 0):=by
 have hu:=Try.underlying193
 have hg:=World.block_lt_of_cell? w _ c0
 have hmk:=made_ring (fun _=>0) 0 (by omega)
 simp only[Int.ofNat_zero,Int.mul_zero,Int.zero_add,Nat.mul_zero,Nat.zero_add,Int.natCast_zero] at hmk
 go_enter Try.func173,Try.ntmps173
 go_wp2_with fail
 go_loopw [2,16] (fun v2 v16 w'=>v2= .slice (some ⟨w.heap.size,0,none⟩) 0 4∧v16= .int .i64 0∧Aside0 (w'=w.alloc (.cells (nums .i64 (ringAt (fun _=>0) 0 0)).toArray 3))) (fun _ _ _=>0)
 case atStart=>exact⟨rfl,rfl,⟨rfl⟩⟩
 case round=>
  obtain⟨rfl,rfl,HW⟩:=hrel
  have hw:=HW.out
  subst hw
  go_wp2_with fail
  exact bodyPost_end (results_none rfl _ _ _) rfl ⟨rfl,rfl⟩
theorem ring_put {W:World} {H:Nat} {X:Nat→Int} {m i:Nat} (h:W.heap[H]? =some (.cells (nums .i64 (ringAt X m i)).toArray 3 (0,0))) (hi:i<m):(W.setCells H (0+i * 1) [.int .i64 (X i)]).heap[H]? =some (.cells (nums .i64 (ringAt X m (i+1))).toArray 3 (0,0)):=by
 rw[show 0+i * 1=i by omega, ← ringAt_set X m i hi]
 refine(blk_set h i (.int .i64 (X i))).trans ?_
 simp[nums,List.map_set]
theorem below_cells {w W:World} {H o:Nat} {v:Value} (h:Below w.heap.size w W) (hH:w.heap.size≤H):Below w.heap.size w (W.setCells H o [v]):=below_set h hH
theorem far_keep {wr W:World} {H o:Nat} {vs:List Value} {a:Addr} {v:Value} (hc:wr.cell? a=some v) (hB:Below wr.heap.size wr W) (hne:a.block≠H):(W.setCells H o vs).cell? a=some v:=
 (World.cell?_of_block (setCells_far vs o a.block hne)).trans (pw_cell_below hB hc)
theorem spare_ok {W wr:World} {H i:Nat} {cs:Array Value} {x:Value} (hb:wr.heap[H]? =some (.cells cs 3 (0,0))) (hW:W.heap[H]? =wr.heap[H]?) (hi:i<cs.size): ∀ j,j<[x].length→(W.cell? ⟨H,0+i * 1+j,none⟩).isSome=true∧W.frozen? ⟨H,0+i * 1+j,none⟩=false:=by
 intro j hj
 have hj0:j=0:=by simpa using hj
 subst hj0
 have h:=hW.trans hb
 refine⟨?_,blk_frozen h _⟩
 rw[blk_cell h,show 0+i * 1+0=i by omega,Array.getElem?_eq_getElem hi]
 rfl
set_option maxHeartbeats 2000000 in
set_option maxRecDepth 100000 in
theorem grow_core (g b m fr:Nat) (X:Nat→Int) (w:World) (c0:w.cell? ⟨g,0,none⟩=some (.slice (some ⟨b,0,none⟩) m m)) (c1:w.cell? ⟨g,1,none⟩=some (.int .i64 fr)) (c2:w.cell? ⟨g,2,none⟩=some (.int .i64 m)) (hX: ∀ i,i<m→w.cell? ⟨b,(fr+i) % m,none⟩=some (.int .i64 (X i)))
  (f0:w.frozen? ⟨g,0,none⟩=false) (f1:w.frozen? ⟨g,1,none⟩=false) (hm0:0<m) (hm:m≤96) (hfr:fr<m):
  Calls Try.prog 173 #[.pointer (some ⟨g,0,none⟩)] w fun e w'=>e= .returned (.tuple #[])∧ ∃ w1,Below w.heap.size w w1∧w1.heap[w.heap.size]? =some (.cells (nums .i64 (ringAt X m m)).toArray 3 (0,0))∧w'=(w1.setCell ⟨g,0,none⟩ (.slice (some ⟨w.heap.size,0,none⟩) (2 * m+4) (2 * m+4))).setCell ⟨g,1,none⟩ (.int .i64 0):=by
 have hu:=Try.underlying193
 obtain⟨i0,hi,hzz⟩:=Option.map_eq_some_iff.1 info3
 simp only[Prod.mk.injEq] at hzz
 have HI:=Aside0.mk hi
 have HS1:=Aside0.mk hzz.2.1
 clear hi hzz
 have hg:=World.block_lt_of_cell? w _ c0
 have hb:=World.block_lt_of_cell? w _ (hX 0 hm0)
 have C0:=Aside0.mk c0
 have C1:=Aside0.mk c1
 have F0:=Aside0.mk f0
 have F1:=Aside0.mk f1
 have HX:=Aside0.mk hX
 have hmk:=made_ring X m (by omega)
 have q1:(m:Int)≤96:=by omega
 have q2:(0:Int)<(m:Int):=by omega
 clear hX
 go_enter Try.func173,Try.ntmps173
 go_wp2_with fail
 clear hmk c0 c1 c2 f0 f1
 go_loopw [2,16] (fun v2 v16 w'=> ∃ i:Nat,i≤m∧v16= .int .i64 i∧v2= .slice (some ⟨w.heap.size,0,none⟩) i (2 * m+4)∧Aside0 (w'.heap[w.heap.size]? =some (.cells (nums .i64 (ringAt X m i)).toArray 3 (0,0)))∧Aside0 (Below w.heap.size w w')) (fun _ v16 _=>m - (intOf v16).toNat)
 case atStart=>exact⟨0,Nat.zero_le _,rfl,rfl,⟨heap_alloc_new w _⟩,⟨below_alloc (Below.refl _ _) _⟩⟩
 case round=>
  obtain⟨i,hi,rfl,rfl,HR,HB⟩:=hrel
  by_cases hlt:i<m
  ·have e1:decide ((i:Int)<(m:Int))=true:=decide_eq_true (by omega)
   have c0:=pw_cell_below HB.out C0.out
   have c1:=pw_cell_below HB.out C1.out
   have cx:=pw_cell_below HB.out (HX.out i hlt)
   have hwr:IntKind.i64.wrap ((fr:Int)+(i:Int))=(fr:Int)+(i:Int):=IntWalk.i64_in _ (by omega)
   have htm:Int.tmod ((fr:Int)+(i:Int)) (m:Int)=(((fr+i) % m:Nat):Int):=rfl
   have hj1:=Nat.mod_lt (fr+i) hm0
   generalize (fr+i) % m=j at cx htm hj1
   have hj0:(0:Int)≤(j:Int):=by omega
   have hj2:(j:Int)<(m:Int):=by omega
   have hlw:=HB.out.size
   have hmz: ¬ m=0:=by omega
   go_wp2_with fail
   have KB:Below wr.heap.size wr (wr.alloc (.cells #[.int .i64 (X i)] 3)).drew:=below_drew (below_alloc (Below.refl _ _) _)
   have K0:=far_keep (H:=w.heap.size) (o:=0+i * 1) (vs:=[.int .i64 (X i)]) c0 KB (by show g≠_;omega)
   have K1:=far_keep (H:=w.heap.size) (o:=0+i * 1) (vs:=[.int .i64 (X i)]) c1 KB (by show g≠_;omega)
   have K2:=far_keep (H:=w.heap.size) (o:=0+i * 1) (vs:=[.int .i64 (X i)]) cx KB (by show b≠_;omega)
   have HR2:=Aside0.mk (ring_put (W:=(wr.alloc (.cells #[.int .i64 (X i)] 3)).drew) ((heap_alloc_old _ _ (blk_lt HR.out)).trans HR.out) hlt)
   have HB2:Aside0 (Below w.heap.size w ((wr.alloc (.cells #[.int .i64 (X i)] 3)).drew.setCells w.heap.size (0+i * 1) [.int .i64 (X i)])):=⟨below_cells (below_drew (below_alloc HB.out _)) (Nat.le_refl _)⟩
   go_region_held3 (fun w'=>w'.cell? ⟨g,0,none⟩=some (.slice (some ⟨b,0,none⟩) m m)∧w'.cell? ⟨g,1,none⟩=some (.int .i64 fr)∧w'.cell? ⟨b,j,none⟩=some (.int .i64 (X i))) (first|exact⟨K0,K1,K2⟩|(go_split_ands;exact⟨K0,K1,K2⟩)|go_keep)
    ((refine step_append_room rfl _ _ _ (by rfl) 3 i0 1 Try.underlying25 HI.out HS1.out w.heap.size 0 i (2 * m+4) (by rfl) ⟨wr.heap.size,0,none⟩ 1 1 [.int .i64 (X i)] (by rfl) (by rfl) (World.news_of_block (cs:= #[.int .i64 (X i)]) (t:=3) (fr:=(0,0)) (heap_alloc_new _ _)) (by simp[Value.oneCell']) (by omega) (spare_ok HR.out (heap_alloc_old _ _ (blk_lt HR.out)) (by simp[nums,ringAt_len _ _ _ hi];omega)) ?_))
   clear K0 K1 K2 KB c0 c1 cx htm hwr
   generalize (wr.alloc (.cells #[.int .i64 (X i)] 3)).drew.setCells w.heap.size (0+i * 1) [.int .i64 (X i)]=w9 at HR2 HB2 ⊢
   go_wp2_with fail
   go_roundw
   case rel=>exact⟨i+1,by omega,by go_num,rfl,HR2,HB2⟩
   case measure=>simp[intOf]<;>omega
  ·have ei:i=m:=by omega
   subst ei
   have e1:decide ((i:Int)<(i:Int))=false:=decide_eq_false (by omega)
   have c0:=pw_cell_below HB.out C0.out
   have c1:=pw_cell_below HB.out C1.out
   have f0:wr.frozen? ⟨g,0,none⟩=false:=(HB.out.frozen (p:=⟨g,0,none⟩) hg).trans F0.out
   have f1:wr.frozen? ⟨g,1,none⟩=false:=(HB.out.frozen (p:=⟨g,1,none⟩) hg).trans F1.out
   go_wp2_with fail
   refine bodyPost_end (results_none rfl _ _ _) rfl ⟨rfl,wr,HB.out,HR.out,rfl⟩
theorem ring_full (X:Nat→Int) (m i:Nat) (hi:i<m):(ringAt X m m).getD ((0+i) % (ringAt X m m).length) 0=X i:=by
 rw[ringAt_len X m m (Nat.le_refl _),Nat.zero_add,Nat.mod_eq_of_lt (by omega)]
 unfold ringAt
 rw[List.getD_eq_getElem?_getD,List.getElem?_append_left (by simpa using hi)]
 simp[hi]
theorem que_grow (g:Nat) (A:Option Addr) (R:List Int) (fr mo:Nat) (w:World) (h:Qu w g A R fr R.length mo):
  Calls Try.prog 173 #[.pointer (some ⟨g,0,none⟩)] w fun e w'=>e= .returned (.tuple #[])∧ ∃ R',R'.length=2 * R.length+4∧Qu w' g (some ⟨w.heap.size,0,none⟩) R' 0 R.length mo∧qL R' 0 R.length=qL R fr R.length∧Ks (fun k=>k=g) w w':=by
 have hg:=blk_lt h.hd
 have hs:=h.szm
 have h50:=h.mo50
 rcases h.ring with ⟨rfl,rfl⟩|⟨b,rfl,hp,hb⟩
 ·rcases h.frr with h1|⟨rfl,_⟩
  ·exact absurd h1 (by simp)
  refine(grow_nil g w ((blk_cell h.hd 0).trans rfl) ((blk_cell h.hd 2).trans rfl) (blk_frozen h.hd 0) (blk_frozen h.hd 1) ((blk_cell h.hd 1).trans rfl)).mono ?_
  rintro e w' ⟨rfl,rfl⟩
  have hw: ∀ o,(w.alloc o).heap[g]? =some (.cells #[.slice none 0 0, .int .i64 (0:Nat), .int .i64 (0:Nat), .int .i64 mo] 193 (0,0)):=fun o=>(heap_alloc_old _ _ hg).trans h.hd
  refine⟨rfl,ringAt (fun _=>0) 0 0,ringAt_len _ _ _ (Nat.le_refl _),⟨blk_set (blk_set (hw _) 0 _) 1 _, .inr ⟨_,rfl,by rw[ringAt_len _ _ _ (Nat.le_refl _)];omega,?_⟩,Nat.zero_le _, .inl (by rw[ringAt_len _ _ _ (Nat.le_refl _)];omega),hs,h50,by rw[ringAt_len _ _ _ (Nat.le_refl _)];omega⟩,rfl,?_⟩
  ·exact blk_far (blk_far (heap_alloc_new w _) (p:=⟨g,0,none⟩) (by show w.heap.size≠g;omega) _) (p:=⟨g,1,none⟩) (by show w.heap.size≠g;omega) _
  ·exact(((Ks.refl (fun k=>k=g) w).below (below_alloc (Below.refl _ _) _)).set (g:=g) (fun _=>rfl) 0 _).set (g:=g) (fun _=>rfl) 1 _
 ·have hfr:fr<R.length:=by
   rcases h.frr with h1|⟨_,h1⟩
   ·exact h1
   ·rw[h1] at hp;exact absurd hp (by simp)
  refine(grow_core g b R.length fr (fun i=>R.getD ((fr+i) % R.length) 0) w ((blk_cell h.hd 0).trans rfl) ((blk_cell h.hd 1).trans rfl) ((blk_cell h.hd 2).trans rfl) (fun i hi=>(blk_cell hb _).trans (nums_get R _ (Nat.mod_lt _ hp))) (blk_frozen h.hd 0) (blk_frozen h.hd 1) hp (by omega) hfr).mono ?_
  rintro e w' ⟨rfl,w1,hbw,hr,rfl⟩
  have hw:=(hbw.block g hg).trans h.hd
  have hl:=ringAt_len (fun i=>R.getD ((fr+i) % R.length) 0) R.length R.length (Nat.le_refl _)
  refine⟨rfl,ringAt (fun i=>R.getD ((fr+i) % R.length) 0) R.length R.length,hl,⟨?_, .inr ⟨_,rfl,by omega,?_⟩,by omega, .inl (by omega),hs,h50,by omega⟩,?_,?_⟩
  ·have h2:=blk_set (blk_set hw 0 (.slice (some ⟨w.heap.size,0,none⟩) (2 * R.length+4) (2 * R.length+4))) 1 (.int .i64 0)
   rw[hl]
   exact h2
  ·exact blk_far (blk_far hr (p:=⟨g,0,none⟩) (by show w.heap.size≠g;omega) _) (p:=⟨g,1,none⟩) (by show w.heap.size≠g;omega) _
  ·unfold qL
   apply List.map_congr_left
   intro i hi
   exact ring_full _ _ _ (List.mem_range.1 hi)
  ·exact(((Ks.refl (fun k=>k=g) w).below hbw).set (g:=g) (fun _=>rfl) 0 _).set (g:=g) (fun _=>rfl) 1 _
end Go.Proofs.Ytkcpanpdipmmmaa.H
