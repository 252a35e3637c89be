/- What the law's row needs of these texts, taken out of them by wip/tool/mini.py: QSymMid QSortAll QArrRow QSetBase QQueLaw QBfsLaw QWayLaw QRawMem P2 P3 P4 QBase QRefLaw P7 P8 P9 P10 QNet P12 P11 QFlowA QFlowB. -/
import Derived.Test.YtkcpanpdipmmmaaMoafmie
import Derived.RegionTactic
import Derived.ChangeAlike
import Derived.BigRegion
import Derived.LoopTactic
import Derived.WalkKit
import Derived.WalkMore
import Derived.Test.YtkcpanpdipmmmaaProg
import Derived.Test.YtkcpanpdipmmmaaVcljknl
set_option linter.unusedVariables false
set_option linter.unusedSimpArgs false
open Go.RowKit Go.Proofs.YtkcpanpdipmmmaaW.PrintWords Go.Proofs.YtkcpanpdipmmmaaW.PrintLast Go.Proofs.YtkcpanpdipmmmaaW.PrintMore
namespace Go.Proofs.Ytkcpanpdipmmmaa
namespace H
open P
attribute [local irreducible] wpQuiet
def Cross (K:Nat→S38) (a mid b:Nat):Prop:= ∀ x y,a≤x→x<mid→mid≤y→y<b→(K x).f0≤(K y).f0
def F1 (M K:Nat→S38) (N a s mid e b:Nat):Prop:=Mix M K a b∧Stab K N∧Small K N∧Le K a s∧Le K s mid∧Le K mid e∧Le K e b∧Cross K a mid b
def F2 (M K:Nat→S38) (N a mid e b:Nat):Prop:=Mix M K a b∧Stab K N∧Small K N∧Le K a mid∧Le K mid e∧Le K e b∧Cross K a mid b
theorem f1_rot {M:Nat→S38} {N a m b mid s e:Nat} (h1:Le M a m) (h2:Le M m b) (has:a≤s) (hsm:s≤m) (hme:m≤e) (heb:e≤b) (hsum:s+e=mid+m) (hsmid:s≤mid) (hmide:mid≤e)
  (hge:a<s→e<b→(M (s - 1)).f0≤(M e).f0) (hlt:s<m→m<e→(M (e - 1)).f0<(M s).f0) (hst:Stab M N) (hsmall:Small M N) (hb:b≤N):F1 M (rotM M s m e) N a s mid e b:=by
 obtain⟨p1,p2,p3,p4,p5,p6⟩:=sym_rot h1 h2 has hsm hme heb hsum hsmid hmide hge hlt hst hb;have hx:=mix_wide (rot_mix M hsm hme) has heb;exact⟨hx,p1,mix_small hx hb hsmall,p2,p3,p4,p5,p6⟩
theorem f2_rec {M K L:Nat→S38} {N a s mid e b:Nat} (h:F1 M K N a s mid e b) (hl:Sorted K L N a mid) (hm:mid≤e) (he:e≤b):F2 M L N a mid e b:=by
 obtain⟨h1,h2,h3,h4,h5,h6,h7,h8⟩:=h;obtain⟨l1,l2,l3,l4⟩:=hl;exact⟨mix_trans h1 (mix_wide l1 (Nat.le_refl _) (by omega)),l2,l3,l4,mix_le l1 (Or.inr (Nat.le_refl _)) h6,mix_le l1 (Or.inr hm) h7,mix_cross h8 (Or.inl l1)⟩
theorem f2_no {M K:Nat→S38} {N a s mid e b:Nat} (h:F1 M K N a s mid e b) (hs:s=a∨s=mid):F2 M K N a mid e b:=by
 obtain⟨h1,h2,h3,h4,h5,h6,h7,h8⟩:=h;refine⟨h1,h2,h3,?_,h6,h7,h8⟩;rcases hs with hs|hs
 ·subst hs;exact h5
 ·subst hs;exact h4
theorem f3_rec {M K L:Nat→S38} {N a mid e b:Nat} (h:F2 M K N a mid e b) (hl:Sorted K L N mid b) (ha:a≤mid):Sorted M L N a b:=by
 obtain⟨h1,h2,h3,h4,h6,h7,h8⟩:=h;obtain⟨l1,l2,l3,l4⟩:=hl;exact⟨mix_trans h1 (mix_wide l1 ha (Nat.le_refl _)),l2,l3,le_join (mix_le l1 (Or.inl (Nat.le_refl _)) h4) l4 (mix_cross h8 (Or.inr l1))⟩
theorem f3_no {M K:Nat→S38} {N a mid e b:Nat} (h:F2 M K N a mid e b) (hs:e=mid∨e=b):Sorted M K N a b:=by
 obtain⟨h1,h2,h3,h4,h6,h7,h8⟩:=h;refine⟨h1,h2,h3,le_join h4 ?_ h8⟩;rcases hs with hs|hs
 ·subst hs;exact h7
 ·subst hs;exact h6
structure Mid (a m b mid s0 r0 p:Nat):Prop where
 lo:2 * mid≤a+b
 hi:a+b<2 * mid+2
 am:a+2≤m
 mb:m+2≤b
 s0a:a≤s0
 r0m:r0≤m
 r0mid:r0≤mid
 s0b:mid+m≤s0+b
 sr:s0≤r0
 p:p+1=mid+m
 s0e:s0=a∨s0+b=mid+m
 r0e:r0=mid∨r0=m
theorem mid_f1 {M:Nat→S38} {N a m b mid s0 r0 p s e:Nat} (H:Mid a m b mid s0 r0 p) (h0:s0≤s) (h1:s≤r0) (hse:s+e=mid+m) (hL: ∀ c,s0≤c→c<s→(M c).f0≤(M (p - c)).f0) (hR: ∀ c,s≤c→c<r0→(M (p - c)).f0<(M c).f0)
  (l1:Le M a m) (l2:Le M m b) (hst:Stab M N) (hsm:Small M N) (hb:b≤N):F1 M (rotM M s m e) N a s mid e b:=by
 obtain⟨q1,q2,q3,q4,q5,q6,q7,q8,q9,q10,q11,q12⟩:=H;refine f1_rot l1 l2 (by omega) (by omega) (by omega) (by omega) hse (by omega) (by omega) (fun k1 k2=> ?_) (fun k1 k2=> ?_) hst hsm hb
 ·have:=hL (s - 1) (by omega) (by omega)
  rwa [show p - (s - 1)=e by omega] at this
 ·have:=hR s (Nat.le_refl _) (by omega)
  rwa [show p - s=e - 1 by omega] at this
theorem mid_left {M:Nat→S38} {a m b mid s0 r0 p c:Nat} (H:Mid a m b mid s0 r0 p) (h0:s0≤c) (h1:c<r0) (l1:Le M a m) (l2:Le M m b) (h:(M c).f0≤(M (p - c)).f0): ∀ x,s0≤x→x<c+1→(M x).f0≤(M (p - x)).f0:=by
 obtain⟨q1,q2,q3,q4,q5,q6,q7,q8,q9,q10,q11,q12⟩:=H;intro x k1 k2;have k3:(M x).f0≤(M c).f0:=le_le l1 (by omega) (by omega) (by omega);have k4:(M (p - c)).f0≤(M (p - x)).f0:=le_le l2 (by omega) (by omega) (by omega);omega
theorem mid_right {M:Nat→S38} {a m b mid s0 r0 p c:Nat} (H:Mid a m b mid s0 r0 p) (h0:s0≤c) (h1:c<r0) (l1:Le M a m) (l2:Le M m b) (h:(M (p - c)).f0<(M c).f0): ∀ x,c≤x→x<r0→(M (p - x)).f0<(M x).f0:=by
 obtain⟨q1,q2,q3,q4,q5,q6,q7,q8,q9,q10,q11,q12⟩:=H;intro x k1 k2;have k3:(M c).f0≤(M x).f0:=le_le l1 (by omega) (by omega) (by omega);have k4:(M (p - x)).f0≤(M (p - c)).f0:=le_le l2 (by omega) (by omega) (by omega);omega
theorem mid_two {a m b mid p:Nat} (h1:(a+b) / 2=mid) (h2:a+2≤m) (h3:m+2≤b) (h4:p+1=mid+m):
  ∃ s0 r0:Nat,Aside0 (Mid a m b mid s0 r0 p)∧((mid<m∧s0+b=mid+m∧r0=mid)∨(¬ mid<m∧s0=a∧r0=m)):=by
 by_cases h:mid<m
 ·exact⟨mid+m - b,mid,⟨by omega,by omega,h2,h3,by omega,by omega,by omega,by omega,by omega,h4,Or.inr (by omega),Or.inl rfl⟩,Or.inl ⟨h,by omega,rfl⟩⟩
 ·exact⟨a,m,⟨by omega,by omega,h2,h3,by omega,by omega,by omega,by omega,by omega,h4,Or.inl rfl,Or.inr rfl⟩,Or.inr ⟨h,rfl,rfl⟩⟩
def SymOk (g N cap:Nat) (d:Nat):Prop:= ∀ (M:Nat→S38) (a m b:Nat) (w:World),b≤a+d→Arr w g N M→a<m→m<b→b≤N→Stab M N→Small M N→Le M a m→Le M m b→
  Calls Try.prog 170 #[.slice (some ⟨g,0,none⟩) N cap, .int .i64 (a:Int), .int .i64 (m:Int), .int .i64 (b:Int), .func (.func 144) #[] #[]] w fun e w'=>e= .returned (.tuple #[])∧(∃ K,Arr w' g N K∧Sorted M K N a b)∧Fr w w' g
set_option maxHeartbeats 4000000 in
set_option maxRecDepth 100000 in
theorem symMid_calls (g N cap d:Nat) (ih:SymOk g N cap d) (M:Nat→S38) (a m b:Nat) (w:World) (hd:b≤a+d+1) (h:Arr w g N M) (hN:N≤1000000) (ham:a+2≤m) (hmb:m+2≤b) (hb:b≤N) (hs:Stab M N) (hsm:Small M N) (hl1:Le M a m) (hl2:Le M m b):
  Calls Try.prog 170 #[.slice (some ⟨g,0,none⟩) N cap, .int .i64 (a:Int), .int .i64 (m:Int), .int .i64 (b:Int), .func (.func 144) #[] #[]] w fun e w'=>e= .returned (.tuple #[])∧(∃ K,Arr w' g N K∧Sorted M K N a b)∧Fr w w' g:=by
 obtain⟨mid,hmid⟩: ∃ mid,(a+b) / 2=mid:=⟨_,rfl⟩;obtain⟨p,hp⟩: ∃ p,p+1=mid+m:=⟨mid+m - 1,by omega⟩;obtain⟨s0,r0,HM,hor⟩:=mid_two hmid ham hmb hp;have HA:=Ya h;have HSM:=Ya hsm;have HST:=Ya hs;have HL1:=Ya hl1;have HL2:=Ya hl2;have IH:=Ya ih;clear h hs hsm hl1 hl2 ih;have hmz:((a:Int)+(b:Int)) / 2=(mid:Int):=by omega
 have hpz:(mid:Int)+(m:Int) - 1=(p:Int):=by omega
 have e1:(((b:Int) - (m:Int)) == 1)=false:=by rw[beq_eq_false_iff_ne];omega
 have e2:(((m:Int) - (a:Int)) == 1)=false:=by rw[beq_eq_false_iff_ne];omega
 have bp:p<2000000:=by omega
 have bmid:mid≤1000000:=by omega
 clear hmid;go_enter Try.func170,Try.ntmps170;rcases hor with ⟨hc,hs0,hr0⟩|⟨hc,hs0,hr0⟩
 ·have hcb:decide ((mid:Int)<(m:Int))=true:=Yv (by omega)
  have hsz:(mid:Int)+(m:Int) - (b:Int)=(s0:Int):=by omega
  go_wp2_with fail;go_loopw [20,21] (fun vs vr wr=> ∃ s r:Nat,s0≤s∧s≤r∧r≤r0∧vs= .int .i64 s∧vr= .int .i64 r∧Aside0 (Arr wr g N M)∧Aside0 (∀ c,s0≤c→c<s→(M c).f0≤(M (p - c)).f0)∧Aside0 (∀ c,r≤c→c<r0→(M (p - c)).f0<(M c).f0)∧Aside0 (Fr w wr g)) (fun vs vr _=>(intOf vr).toNat - (intOf vs).toNat)
  case atStart=>exact⟨s0,r0,Nat.le_refl _,HM.out.sr,Nat.le_refl _,by first|rfl|rw[hs0],by rw[hr0],HA,⟨fun y h1 h2=>by omega⟩,⟨fun y h1 h2=>by omega⟩,⟨grow_refl _ _⟩⟩
  case round=>
   clear HA;obtain⟨s,r,hsr0,hsr,hrr,rfl,rfl,HA1,HL,HR,HG⟩:=hrel;by_cases hlt:s<r
   ·obtain⟨c,hcq⟩: ∃ c,(s+r) / 2=c:=⟨_,rfl⟩
    have hcz:((s:Int)+(r:Int)) / 2=(c:Int):=by omega
    have HB:Aside0 (s≤c∧c<r∧s0≤c∧c<r0∧c<N∧p - c<N∧c≤p):=by
     obtain⟨q1,q2,q3,q4,q5,q6,q7,q8,q9,q10,q11,q12⟩:=HM.out;exact⟨by omega,by omega,by omega,by omega,by omega,by omega,by omega⟩
    have bc:c<N:=HB.out.2.2.2.2.1;obtain⟨q,hq⟩: ∃ q,p - c=q:=⟨_,rfl⟩;have hqz:(p:Int) - (c:Int)=(q:Int):=by have:=HB.out;omega
    have hwp:IntKind.i64.wrap (q:Int)=(q:Int):=by have:=HB.out;rw[IntKind.wrap_i64];omega
    have b1:=HSM.out c HB.out.2.2.2.2.1;have b2:=HSM.out q (by have:=HB.out;omega);have c0:=HA1.out.q0 (x:=c) HB.out.2.2.2.2.1;have c1:=HA1.out.q1 (x:=c) HB.out.2.2.2.2.1;have d0:=HA1.out.q0 (x:=q) (by have:=HB.out;omega);have d1:=HA1.out.q1 (x:=q) (by have:=HB.out;omega);have z1:(c:Int)<(N:Int):=by have:=HB.out;omega
    have z2:(q:Int)<(N:Int):=by have:=HB.out;omega
    have HQ:=Ya hq;clear hcq hq;go_wp2_with fail;refine wp_region_quiet_below (by kernel_rfl) (by kernel_rfl) ?_;(repeat(quiet_step ((go_at_call 144;exact calls_below_of (cmp_calls (M q) (M c) b2.1 b2.2 b1.1 b1.2 _)))));refine wpQuiet_nil ?_;intro wq hw';obtain⟨⟨wz,hbq⟩,hwq⟩:=hw';subst hwq;have HA2:Aside0 (Arr wq g N M):=⟨HA1.out.below hbq⟩;have HG2:Aside0 (Fr w wq g):=⟨grow_trans HG.out (grow_below hbq)⟩;clear c0 c1 d0 d1 HA1 HG hbq hcz z1 z2 hqz;by_cases hlc:(M q).f0<(M c).f0
    ·have hcd:(!decide ((M q).f0 - (M c).f0<0))=false:=by rw[Yv (by omega)];rfl
     have HR2:Aside0 (∀ y,c≤y→y<r0→(M (p - y)).f0<(M y).f0):=⟨mid_right HM.out HB.out.2.2.1 HB.out.2.2.2.1 HL1.out HL2.out (by rw[HQ.out];exact hlc)⟩;clear HR hlc b1 b2;rw[hcd];clear hcd;go_wp2_with fail;go_roundw
     case rel=>exact⟨s,c,hsr0,HB.out.1,by have:=HB.out;omega,rfl,rfl,HA2,HL,HR2,HG2⟩
     case measure=>have:=HB.out;simp[intOf]<;>omega
    ·have hcd:(!decide ((M q).f0 - (M c).f0<0))=true:=by rw[Yw (by omega)];rfl
     have HL2':Aside0 (∀ y,s0≤y→y<c+1→(M y).f0≤(M (p - y)).f0):=⟨mid_left HM.out HB.out.2.2.1 HB.out.2.2.2.1 HL1.out HL2.out (by rw[HQ.out];omega)⟩;clear HL hlc b1 b2;rw[hcd];clear hcd;go_wp2_with fail;go_roundw
     case rel=>exact⟨c+1,r,by have:=HB.out;omega,by have:=HB.out;omega,hrr,by go_num,rfl,HA2,HL2',HR,HG2⟩
     case measure=>have:=HB.out;simp[intOf]<;>omega
   ·have er:s=r:=by omega
    subst er;obtain⟨e,he⟩: ∃ e,s+e=mid+m:=⟨mid+m - s,by have:=HM.out.r0m;omega⟩;have hez:(mid:Int)+(m:Int) - (s:Int)=(e:Int):=by omega
    have HF:Aside0 (F1 M (rotM M s m e) N a s mid e b):=⟨mid_f1 HM.out hsr0 hrr he HL.out HR.out HL1.out HL2.out HST.out HSM.out hb⟩;have b1:a≤s:=by have:=HM.out.s0a;omega
    have b2:s≤mid:=by have:=HM.out.r0mid;omega
    have b3:s≤m:=by have:=HM.out.r0m;omega
    have b4:m≤e:=by omega
    have b5:mid≤e:=by omega
    have b6:e≤b:=by have:=HM.out.s0b;omega
    have b7:a+2≤mid+1:=by have:=HM.out.hi;omega
    have b8:mid+2≤b:=by have:=HM.out.lo;omega
    clear HL HR HL1 HL2 HST HSM hlt he hsr hsr0 hrr;by_cases c1:s<m
    ·have hb1:decide ((s:Int)<(m:Int))=true:=Yv (by omega)
     by_cases c2:m<e
     ·have hb2:decide ((m:Int)<(e:Int))=true:=Yv (by omega)
      go_wp2_with fail;refine(rotate_calls g N cap M s m e _ _ HA1.out hN c1 c2 (by omega)).mono ?_;rintro e3 w3 ⟨rfl,ha3,hg3⟩;have HA3:=Ya ha3;have HG3:Aside0 (Fr w w3 g):=⟨grow_trans HG.out hg3⟩;clear ha3 hg3 HA1 HG;obtain⟨K,hK⟩: ∃ K,K=rotM M s m e:=⟨_,rfl⟩;rw[← hK] at HA3 HF;clear hK;by_cases c3:a<s
      ·have hb3:decide ((a:Int)<(s:Int))=true:=Yv (by omega)
       by_cases c4:s<mid
       ·have hb4:decide ((s:Int)<(mid:Int))=true:=Yv (by omega)
        go_wp2_with fail;refine(IH.out K a s mid _ (by omega) HA3.out c3 c4 (by omega) HF.out.2.1 HF.out.2.2.1 HF.out.2.2.2.1 HF.out.2.2.2.2.1).mono ?_;rintro e4 w4 ⟨rfl,⟨K2,ha4,hk4⟩,hg4⟩;have HA4:=Ya ha4;have HF2:Aside0 (F2 M K2 N a mid e b):=⟨f2_rec HF.out hk4 b5 b6⟩;have HG4:Aside0 (Fr w w4 g):=⟨grow_trans HG3.out hg4⟩;clear ha4 hk4 hg4 HA3 HF HG3;by_cases c5:mid<e
        ·have hb5:decide ((mid:Int)<(e:Int))=true:=Yv (by omega)
         by_cases c6:e<b
         ·have hb6:decide ((e:Int)<(b:Int))=true:=Yv (by omega)
          go_wp2_with fail;refine(IH.out K2 mid e b _ (by omega) HA4.out c5 c6 hb HF2.out.2.1 HF2.out.2.2.1 HF2.out.2.2.2.2.1 HF2.out.2.2.2.2.2.1).mono ?_;rintro e5 w5 ⟨rfl,⟨K3,ha5,hk5⟩,hg5⟩;have HA5:=Ya ha5;have HS5:Aside0 (Sorted M K3 N a b):=⟨f3_rec HF2.out hk5 (by omega)⟩;have HG5:Aside0 (Fr w w5 g):=⟨grow_trans HG4.out hg5⟩;clear ha5 hk5 hg5 HA4 HF2 HG4;go_wp2_with fail;go_end0;exact⟨rfl,⟨K3,HA5.out,HS5.out⟩,HG5.out⟩
         ·have hb6:decide ((e:Int)<(b:Int))=false:=Yw (by omega)
          have HS5:Aside0 (Sorted M K2 N a b):=⟨f3_no HF2.out (Or.inr (by omega))⟩;clear HF2;go_wp2_with fail;go_end0;exact⟨rfl,⟨K2,HA4.out,HS5.out⟩,HG4.out⟩
        ·have hb5:decide ((mid:Int)<(e:Int))=false:=Yw (by omega)
         have HS5:Aside0 (Sorted M K2 N a b):=⟨f3_no HF2.out (Or.inl (by omega))⟩;clear HF2;go_wp2_with fail;go_end0;exact⟨rfl,⟨K2,HA4.out,HS5.out⟩,HG4.out⟩
       ·have hb4:decide ((s:Int)<(mid:Int))=false:=Yw (by omega)
        have HF2:Aside0 (F2 M K N a mid e b):=⟨f2_no HF.out (Or.inr (by omega))⟩;have HA4:=HA3;have HG4:=HG3;obtain⟨K2,rfl⟩: ∃ K2,K2=K:=⟨K,rfl⟩;clear HF HA3 HG3;by_cases c5:mid<e
        ·have hb5:decide ((mid:Int)<(e:Int))=true:=Yv (by omega)
         by_cases c6:e<b
         ·have hb6:decide ((e:Int)<(b:Int))=true:=Yv (by omega)
          go_wp2_with fail;refine(IH.out K2 mid e b _ (by omega) HA4.out c5 c6 hb HF2.out.2.1 HF2.out.2.2.1 HF2.out.2.2.2.2.1 HF2.out.2.2.2.2.2.1).mono ?_;rintro e5 w5 ⟨rfl,⟨K3,ha5,hk5⟩,hg5⟩;have HA5:=Ya ha5;have HS5:Aside0 (Sorted M K3 N a b):=⟨f3_rec HF2.out hk5 (by omega)⟩;have HG5:Aside0 (Fr w w5 g):=⟨grow_trans HG4.out hg5⟩;clear ha5 hk5 hg5 HA4 HF2 HG4;go_wp2_with fail;go_end0;exact⟨rfl,⟨K3,HA5.out,HS5.out⟩,HG5.out⟩
         ·have hb6:decide ((e:Int)<(b:Int))=false:=Yw (by omega)
          have HS5:Aside0 (Sorted M K2 N a b):=⟨f3_no HF2.out (Or.inr (by omega))⟩;clear HF2;go_wp2_with fail;go_end0;exact⟨rfl,⟨K2,HA4.out,HS5.out⟩,HG4.out⟩
        ·have hb5:decide ((mid:Int)<(e:Int))=false:=Yw (by omega)
         have HS5:Aside0 (Sorted M K2 N a b):=⟨f3_no HF2.out (Or.inl (by omega))⟩;clear HF2;go_wp2_with fail;go_end0;exact⟨rfl,⟨K2,HA4.out,HS5.out⟩,HG4.out⟩
      ·have hb3:decide ((a:Int)<(s:Int))=false:=Yw (by omega)
       have HF2:Aside0 (F2 M K N a mid e b):=⟨f2_no HF.out (Or.inl (by omega))⟩;have HA4:=HA3;have HG4:=HG3;obtain⟨K2,rfl⟩: ∃ K2,K2=K:=⟨K,rfl⟩;clear HF HA3 HG3;by_cases c5:mid<e
       ·have hb5:decide ((mid:Int)<(e:Int))=true:=Yv (by omega)
        by_cases c6:e<b
        ·have hb6:decide ((e:Int)<(b:Int))=true:=Yv (by omega)
         go_wp2_with fail;refine(IH.out K2 mid e b _ (by omega) HA4.out c5 c6 hb HF2.out.2.1 HF2.out.2.2.1 HF2.out.2.2.2.2.1 HF2.out.2.2.2.2.2.1).mono ?_;rintro e5 w5 ⟨rfl,⟨K3,ha5,hk5⟩,hg5⟩;have HA5:=Ya ha5;have HS5:Aside0 (Sorted M K3 N a b):=⟨f3_rec HF2.out hk5 (by omega)⟩;have HG5:Aside0 (Fr w w5 g):=⟨grow_trans HG4.out hg5⟩;clear ha5 hk5 hg5 HA4 HF2 HG4;go_wp2_with fail;go_end0;exact⟨rfl,⟨K3,HA5.out,HS5.out⟩,HG5.out⟩
        ·have hb6:decide ((e:Int)<(b:Int))=false:=Yw (by omega)
         have HS5:Aside0 (Sorted M K2 N a b):=⟨f3_no HF2.out (Or.inr (by omega))⟩;clear HF2;go_wp2_with fail;go_end0;exact⟨rfl,⟨K2,HA4.out,HS5.out⟩,HG4.out⟩
       ·have hb5:decide ((mid:Int)<(e:Int))=false:=Yw (by omega)
        have HS5:Aside0 (Sorted M K2 N a b):=⟨f3_no HF2.out (Or.inl (by omega))⟩;clear HF2;go_wp2_with fail;go_end0;exact⟨rfl,⟨K2,HA4.out,HS5.out⟩,HG4.out⟩
     ·have hb2:decide ((m:Int)<(e:Int))=false:=Yw (by omega)
      have HA3:Aside0 (Arr wr g N (rotM M s m e)):=⟨HA1.out.congr fun x _=>rot_none M (by omega) (by omega) (Or.inr (by omega)) x⟩;have HG3:=HG;clear HA1 HG;obtain⟨K,hK⟩: ∃ K,K=rotM M s m e:=⟨_,rfl⟩;rw[← hK] at HA3 HF;clear hK;by_cases c3:a<s
      ·have hb3:decide ((a:Int)<(s:Int))=true:=Yv (by omega)
       by_cases c4:s<mid
       ·have hb4:decide ((s:Int)<(mid:Int))=true:=Yv (by omega)
        go_wp2_with fail;refine(IH.out K a s mid _ (by omega) HA3.out c3 c4 (by omega) HF.out.2.1 HF.out.2.2.1 HF.out.2.2.2.1 HF.out.2.2.2.2.1).mono ?_;rintro e4 w4 ⟨rfl,⟨K2,ha4,hk4⟩,hg4⟩;have HA4:=Ya ha4;have HF2:Aside0 (F2 M K2 N a mid e b):=⟨f2_rec HF.out hk4 b5 b6⟩;have HG4:Aside0 (Fr w w4 g):=⟨grow_trans HG3.out hg4⟩;clear ha4 hk4 hg4 HA3 HF HG3;by_cases c5:mid<e
        ·have hb5:decide ((mid:Int)<(e:Int))=true:=Yv (by omega)
         by_cases c6:e<b
         ·have hb6:decide ((e:Int)<(b:Int))=true:=Yv (by omega)
          go_wp2_with fail;refine(IH.out K2 mid e b _ (by omega) HA4.out c5 c6 hb HF2.out.2.1 HF2.out.2.2.1 HF2.out.2.2.2.2.1 HF2.out.2.2.2.2.2.1).mono ?_;rintro e5 w5 ⟨rfl,⟨K3,ha5,hk5⟩,hg5⟩;have HA5:=Ya ha5;have HS5:Aside0 (Sorted M K3 N a b):=⟨f3_rec HF2.out hk5 (by omega)⟩;have HG5:Aside0 (Fr w w5 g):=⟨grow_trans HG4.out hg5⟩;clear ha5 hk5 hg5 HA4 HF2 HG4;go_wp2_with fail;go_end0;exact⟨rfl,⟨K3,HA5.out,HS5.out⟩,HG5.out⟩
         ·have hb6:decide ((e:Int)<(b:Int))=false:=Yw (by omega)
          have HS5:Aside0 (Sorted M K2 N a b):=⟨f3_no HF2.out (Or.inr (by omega))⟩;clear HF2;go_wp2_with fail;go_end0;exact⟨rfl,⟨K2,HA4.out,HS5.out⟩,HG4.out⟩
        ·have hb5:decide ((mid:Int)<(e:Int))=false:=Yw (by omega)
         have HS5:Aside0 (Sorted M K2 N a b):=⟨f3_no HF2.out (Or.inl (by omega))⟩;clear HF2;go_wp2_with fail;go_end0;exact⟨rfl,⟨K2,HA4.out,HS5.out⟩,HG4.out⟩
       ·have hb4:decide ((s:Int)<(mid:Int))=false:=Yw (by omega)
        have HF2:Aside0 (F2 M K N a mid e b):=⟨f2_no HF.out (Or.inr (by omega))⟩;have HA4:=HA3;have HG4:=HG3;obtain⟨K2,rfl⟩: ∃ K2,K2=K:=⟨K,rfl⟩;clear HF HA3 HG3;by_cases c5:mid<e
        ·have hb5:decide ((mid:Int)<(e:Int))=true:=Yv (by omega)
         by_cases c6:e<b
         ·have hb6:decide ((e:Int)<(b:Int))=true:=Yv (by omega)
          go_wp2_with fail;refine(IH.out K2 mid e b _ (by omega) HA4.out c5 c6 hb HF2.out.2.1 HF2.out.2.2.1 HF2.out.2.2.2.2.1 HF2.out.2.2.2.2.2.1).mono ?_;rintro e5 w5 ⟨rfl,⟨K3,ha5,hk5⟩,hg5⟩;have HA5:=Ya ha5;have HS5:Aside0 (Sorted M K3 N a b):=⟨f3_rec HF2.out hk5 (by omega)⟩;have HG5:Aside0 (Fr w w5 g):=⟨grow_trans HG4.out hg5⟩;clear ha5 hk5 hg5 HA4 HF2 HG4;go_wp2_with fail;go_end0;exact⟨rfl,⟨K3,HA5.out,HS5.out⟩,HG5.out⟩
         ·have hb6:decide ((e:Int)<(b:Int))=false:=Yw (by omega)
          have HS5:Aside0 (Sorted M K2 N a b):=⟨f3_no HF2.out (Or.inr (by omega))⟩;clear HF2;go_wp2_with fail;go_end0;exact⟨rfl,⟨K2,HA4.out,HS5.out⟩,HG4.out⟩
        ·have hb5:decide ((mid:Int)<(e:Int))=false:=Yw (by omega)
         have HS5:Aside0 (Sorted M K2 N a b):=⟨f3_no HF2.out (Or.inl (by omega))⟩;clear HF2;go_wp2_with fail;go_end0;exact⟨rfl,⟨K2,HA4.out,HS5.out⟩,HG4.out⟩
      ·have hb3:decide ((a:Int)<(s:Int))=false:=Yw (by omega)
       have HF2:Aside0 (F2 M K N a mid e b):=⟨f2_no HF.out (Or.inl (by omega))⟩;have HA4:=HA3;have HG4:=HG3;obtain⟨K2,rfl⟩: ∃ K2,K2=K:=⟨K,rfl⟩;clear HF HA3 HG3;by_cases c5:mid<e
       ·have hb5:decide ((mid:Int)<(e:Int))=true:=Yv (by omega)
        by_cases c6:e<b
        ·have hb6:decide ((e:Int)<(b:Int))=true:=Yv (by omega)
         go_wp2_with fail;refine(IH.out K2 mid e b _ (by omega) HA4.out c5 c6 hb HF2.out.2.1 HF2.out.2.2.1 HF2.out.2.2.2.2.1 HF2.out.2.2.2.2.2.1).mono ?_;rintro e5 w5 ⟨rfl,⟨K3,ha5,hk5⟩,hg5⟩;have HA5:=Ya ha5;have HS5:Aside0 (Sorted M K3 N a b):=⟨f3_rec HF2.out hk5 (by omega)⟩;have HG5:Aside0 (Fr w w5 g):=⟨grow_trans HG4.out hg5⟩;clear ha5 hk5 hg5 HA4 HF2 HG4;go_wp2_with fail;go_end0;exact⟨rfl,⟨K3,HA5.out,HS5.out⟩,HG5.out⟩
        ·have hb6:decide ((e:Int)<(b:Int))=false:=Yw (by omega)
         have HS5:Aside0 (Sorted M K2 N a b):=⟨f3_no HF2.out (Or.inr (by omega))⟩;clear HF2;go_wp2_with fail;go_end0;exact⟨rfl,⟨K2,HA4.out,HS5.out⟩,HG4.out⟩
       ·have hb5:decide ((mid:Int)<(e:Int))=false:=Yw (by omega)
        have HS5:Aside0 (Sorted M K2 N a b):=⟨f3_no HF2.out (Or.inl (by omega))⟩;clear HF2;go_wp2_with fail;go_end0;exact⟨rfl,⟨K2,HA4.out,HS5.out⟩,HG4.out⟩
    ·have hb1:decide ((s:Int)<(m:Int))=false:=Yw (by omega)
     have HA3:Aside0 (Arr wr g N (rotM M s m e)):=⟨HA1.out.congr fun x _=>rot_none M (by omega) (by omega) (Or.inl (by omega)) x⟩;have HG3:=HG;clear HA1 HG;obtain⟨K,hK⟩: ∃ K,K=rotM M s m e:=⟨_,rfl⟩;rw[← hK] at HA3 HF;clear hK;by_cases c3:a<s
     ·have hb3:decide ((a:Int)<(s:Int))=true:=Yv (by omega)
      by_cases c4:s<mid
      ·have hb4:decide ((s:Int)<(mid:Int))=true:=Yv (by omega)
       go_wp2_with fail;refine(IH.out K a s mid _ (by omega) HA3.out c3 c4 (by omega) HF.out.2.1 HF.out.2.2.1 HF.out.2.2.2.1 HF.out.2.2.2.2.1).mono ?_;rintro e4 w4 ⟨rfl,⟨K2,ha4,hk4⟩,hg4⟩;have HA4:=Ya ha4;have HF2:Aside0 (F2 M K2 N a mid e b):=⟨f2_rec HF.out hk4 b5 b6⟩;have HG4:Aside0 (Fr w w4 g):=⟨grow_trans HG3.out hg4⟩;clear ha4 hk4 hg4 HA3 HF HG3;by_cases c5:mid<e
       ·have hb5:decide ((mid:Int)<(e:Int))=true:=Yv (by omega)
        by_cases c6:e<b
        ·have hb6:decide ((e:Int)<(b:Int))=true:=Yv (by omega)
         go_wp2_with fail;refine(IH.out K2 mid e b _ (by omega) HA4.out c5 c6 hb HF2.out.2.1 HF2.out.2.2.1 HF2.out.2.2.2.2.1 HF2.out.2.2.2.2.2.1).mono ?_;rintro e5 w5 ⟨rfl,⟨K3,ha5,hk5⟩,hg5⟩;have HA5:=Ya ha5;have HS5:Aside0 (Sorted M K3 N a b):=⟨f3_rec HF2.out hk5 (by omega)⟩;have HG5:Aside0 (Fr w w5 g):=⟨grow_trans HG4.out hg5⟩;clear ha5 hk5 hg5 HA4 HF2 HG4;go_wp2_with fail;go_end0;exact⟨rfl,⟨K3,HA5.out,HS5.out⟩,HG5.out⟩
        ·have hb6:decide ((e:Int)<(b:Int))=false:=Yw (by omega)
         have HS5:Aside0 (Sorted M K2 N a b):=⟨f3_no HF2.out (Or.inr (by omega))⟩;clear HF2;go_wp2_with fail;go_end0;exact⟨rfl,⟨K2,HA4.out,HS5.out⟩,HG4.out⟩
       ·have hb5:decide ((mid:Int)<(e:Int))=false:=Yw (by omega)
        have HS5:Aside0 (Sorted M K2 N a b):=⟨f3_no HF2.out (Or.inl (by omega))⟩;clear HF2;go_wp2_with fail;go_end0;exact⟨rfl,⟨K2,HA4.out,HS5.out⟩,HG4.out⟩
      ·have hb4:decide ((s:Int)<(mid:Int))=false:=Yw (by omega)
       have HF2:Aside0 (F2 M K N a mid e b):=⟨f2_no HF.out (Or.inr (by omega))⟩;have HA4:=HA3;have HG4:=HG3;obtain⟨K2,rfl⟩: ∃ K2,K2=K:=⟨K,rfl⟩;clear HF HA3 HG3;by_cases c5:mid<e
       ·have hb5:decide ((mid:Int)<(e:Int))=true:=Yv (by omega)
        by_cases c6:e<b
        ·have hb6:decide ((e:Int)<(b:Int))=true:=Yv (by omega)
         go_wp2_with fail;refine(IH.out K2 mid e b _ (by omega) HA4.out c5 c6 hb HF2.out.2.1 HF2.out.2.2.1 HF2.out.2.2.2.2.1 HF2.out.2.2.2.2.2.1).mono ?_;rintro e5 w5 ⟨rfl,⟨K3,ha5,hk5⟩,hg5⟩;have HA5:=Ya ha5;have HS5:Aside0 (Sorted M K3 N a b):=⟨f3_rec HF2.out hk5 (by omega)⟩;have HG5:Aside0 (Fr w w5 g):=⟨grow_trans HG4.out hg5⟩;clear ha5 hk5 hg5 HA4 HF2 HG4;go_wp2_with fail;go_end0;exact⟨rfl,⟨K3,HA5.out,HS5.out⟩,HG5.out⟩
        ·have hb6:decide ((e:Int)<(b:Int))=false:=Yw (by omega)
         have HS5:Aside0 (Sorted M K2 N a b):=⟨f3_no HF2.out (Or.inr (by omega))⟩;clear HF2;go_wp2_with fail;go_end0;exact⟨rfl,⟨K2,HA4.out,HS5.out⟩,HG4.out⟩
       ·have hb5:decide ((mid:Int)<(e:Int))=false:=Yw (by omega)
        have HS5:Aside0 (Sorted M K2 N a b):=⟨f3_no HF2.out (Or.inl (by omega))⟩;clear HF2;go_wp2_with fail;go_end0;exact⟨rfl,⟨K2,HA4.out,HS5.out⟩,HG4.out⟩
     ·have hb3:decide ((a:Int)<(s:Int))=false:=Yw (by omega)
      have HF2:Aside0 (F2 M K N a mid e b):=⟨f2_no HF.out (Or.inl (by omega))⟩;have HA4:=HA3;have HG4:=HG3;obtain⟨K2,rfl⟩: ∃ K2,K2=K:=⟨K,rfl⟩;clear HF HA3 HG3;by_cases c5:mid<e
      ·have hb5:decide ((mid:Int)<(e:Int))=true:=Yv (by omega)
       by_cases c6:e<b
       ·have hb6:decide ((e:Int)<(b:Int))=true:=Yv (by omega)
        go_wp2_with fail;refine(IH.out K2 mid e b _ (by omega) HA4.out c5 c6 hb HF2.out.2.1 HF2.out.2.2.1 HF2.out.2.2.2.2.1 HF2.out.2.2.2.2.2.1).mono ?_;rintro e5 w5 ⟨rfl,⟨K3,ha5,hk5⟩,hg5⟩;have HA5:=Ya ha5;have HS5:Aside0 (Sorted M K3 N a b):=⟨f3_rec HF2.out hk5 (by omega)⟩;have HG5:Aside0 (Fr w w5 g):=⟨grow_trans HG4.out hg5⟩;clear ha5 hk5 hg5 HA4 HF2 HG4;go_wp2_with fail;go_end0;exact⟨rfl,⟨K3,HA5.out,HS5.out⟩,HG5.out⟩
       ·have hb6:decide ((e:Int)<(b:Int))=false:=Yw (by omega)
        have HS5:Aside0 (Sorted M K2 N a b):=⟨f3_no HF2.out (Or.inr (by omega))⟩;clear HF2;go_wp2_with fail;go_end0;exact⟨rfl,⟨K2,HA4.out,HS5.out⟩,HG4.out⟩
      ·have hb5:decide ((mid:Int)<(e:Int))=false:=Yw (by omega)
       have HS5:Aside0 (Sorted M K2 N a b):=⟨f3_no HF2.out (Or.inl (by omega))⟩;clear HF2;go_wp2_with fail;go_end0;exact⟨rfl,⟨K2,HA4.out,HS5.out⟩,HG4.out⟩
 ·have hcb:decide ((mid:Int)<(m:Int))=false:=Yw (by omega)
  go_wp2_with fail;go_loopw [20,21] (fun vs vr wr=> ∃ s r:Nat,s0≤s∧s≤r∧r≤r0∧vs= .int .i64 s∧vr= .int .i64 r∧Aside0 (Arr wr g N M)∧Aside0 (∀ c,s0≤c→c<s→(M c).f0≤(M (p - c)).f0)∧Aside0 (∀ c,r≤c→c<r0→(M (p - c)).f0<(M c).f0)∧Aside0 (Fr w wr g)) (fun vs vr _=>(intOf vr).toNat - (intOf vs).toNat)
  case atStart=>exact⟨s0,r0,Nat.le_refl _,HM.out.sr,Nat.le_refl _,by first|rfl|rw[hs0],by rw[hr0],HA,⟨fun y h1 h2=>by omega⟩,⟨fun y h1 h2=>by omega⟩,⟨grow_refl _ _⟩⟩
  case round=>
   clear HA;obtain⟨s,r,hsr0,hsr,hrr,rfl,rfl,HA1,HL,HR,HG⟩:=hrel;by_cases hlt:s<r
   ·obtain⟨c,hcq⟩: ∃ c,(s+r) / 2=c:=⟨_,rfl⟩
    have hcz:((s:Int)+(r:Int)) / 2=(c:Int):=by omega
    have HB:Aside0 (s≤c∧c<r∧s0≤c∧c<r0∧c<N∧p - c<N∧c≤p):=by
     obtain⟨q1,q2,q3,q4,q5,q6,q7,q8,q9,q10,q11,q12⟩:=HM.out;exact⟨by omega,by omega,by omega,by omega,by omega,by omega,by omega⟩
    have bc:c<N:=HB.out.2.2.2.2.1;obtain⟨q,hq⟩: ∃ q,p - c=q:=⟨_,rfl⟩;have hqz:(p:Int) - (c:Int)=(q:Int):=by have:=HB.out;omega
    have hwp:IntKind.i64.wrap (q:Int)=(q:Int):=by have:=HB.out;rw[IntKind.wrap_i64];omega
    have b1:=HSM.out c HB.out.2.2.2.2.1;have b2:=HSM.out q (by have:=HB.out;omega);have c0:=HA1.out.q0 (x:=c) HB.out.2.2.2.2.1;have c1:=HA1.out.q1 (x:=c) HB.out.2.2.2.2.1;have d0:=HA1.out.q0 (x:=q) (by have:=HB.out;omega);have d1:=HA1.out.q1 (x:=q) (by have:=HB.out;omega);have z1:(c:Int)<(N:Int):=by have:=HB.out;omega
    have z2:(q:Int)<(N:Int):=by have:=HB.out;omega
    have HQ:=Ya hq;clear hcq hq;go_wp2_with fail;refine wp_region_quiet_below (by kernel_rfl) (by kernel_rfl) ?_;(repeat(quiet_step ((go_at_call 144;exact calls_below_of (cmp_calls (M q) (M c) b2.1 b2.2 b1.1 b1.2 _)))));refine wpQuiet_nil ?_;intro wq hw';obtain⟨⟨wz,hbq⟩,hwq⟩:=hw';subst hwq;have HA2:Aside0 (Arr wq g N M):=⟨HA1.out.below hbq⟩;have HG2:Aside0 (Fr w wq g):=⟨grow_trans HG.out (grow_below hbq)⟩;clear c0 c1 d0 d1 HA1 HG hbq hcz z1 z2 hqz;by_cases hlc:(M q).f0<(M c).f0
    ·have hcd:(!decide ((M q).f0 - (M c).f0<0))=false:=by rw[Yv (by omega)];rfl
     have HR2:Aside0 (∀ y,c≤y→y<r0→(M (p - y)).f0<(M y).f0):=⟨mid_right HM.out HB.out.2.2.1 HB.out.2.2.2.1 HL1.out HL2.out (by rw[HQ.out];exact hlc)⟩;clear HR hlc b1 b2;rw[hcd];clear hcd;go_wp2_with fail;go_roundw
     case rel=>exact⟨s,c,hsr0,HB.out.1,by have:=HB.out;omega,rfl,rfl,HA2,HL,HR2,HG2⟩
     case measure=>have:=HB.out;simp[intOf]<;>omega
    ·have hcd:(!decide ((M q).f0 - (M c).f0<0))=true:=by rw[Yw (by omega)];rfl
     have HL2':Aside0 (∀ y,s0≤y→y<c+1→(M y).f0≤(M (p - y)).f0):=⟨mid_left HM.out HB.out.2.2.1 HB.out.2.2.2.1 HL1.out HL2.out (by rw[HQ.out];omega)⟩;clear HL hlc b1 b2;rw[hcd];clear hcd;go_wp2_with fail;go_roundw
     case rel=>exact⟨c+1,r,by have:=HB.out;omega,by have:=HB.out;omega,hrr,by go_num,rfl,HA2,HL2',HR,HG2⟩
     case measure=>have:=HB.out;simp[intOf]<;>omega
   ·have er:s=r:=by omega
    subst er;obtain⟨e,he⟩: ∃ e,s+e=mid+m:=⟨mid+m - s,by have:=HM.out.r0m;omega⟩;have hez:(mid:Int)+(m:Int) - (s:Int)=(e:Int):=by omega
    have HF:Aside0 (F1 M (rotM M s m e) N a s mid e b):=⟨mid_f1 HM.out hsr0 hrr he HL.out HR.out HL1.out HL2.out HST.out HSM.out hb⟩;have b1:a≤s:=by have:=HM.out.s0a;omega
    have b2:s≤mid:=by have:=HM.out.r0mid;omega
    have b3:s≤m:=by have:=HM.out.r0m;omega
    have b4:m≤e:=by omega
    have b5:mid≤e:=by omega
    have b6:e≤b:=by have:=HM.out.s0b;omega
    have b7:a+2≤mid+1:=by have:=HM.out.hi;omega
    have b8:mid+2≤b:=by have:=HM.out.lo;omega
    clear HL HR HL1 HL2 HST HSM hlt he hsr hsr0 hrr;by_cases c1:s<m
    ·have hb1:decide ((s:Int)<(m:Int))=true:=Yv (by omega)
     by_cases c2:m<e
     ·have hb2:decide ((m:Int)<(e:Int))=true:=Yv (by omega)
      go_wp2_with fail;refine(rotate_calls g N cap M s m e _ _ HA1.out hN c1 c2 (by omega)).mono ?_;rintro e3 w3 ⟨rfl,ha3,hg3⟩;have HA3:=Ya ha3;have HG3:Aside0 (Fr w w3 g):=⟨grow_trans HG.out hg3⟩;clear ha3 hg3 HA1 HG;obtain⟨K,hK⟩: ∃ K,K=rotM M s m e:=⟨_,rfl⟩;rw[← hK] at HA3 HF;clear hK;by_cases c3:a<s
      ·have hb3:decide ((a:Int)<(s:Int))=true:=Yv (by omega)
       by_cases c4:s<mid
       ·have hb4:decide ((s:Int)<(mid:Int))=true:=Yv (by omega)
        go_wp2_with fail;refine(IH.out K a s mid _ (by omega) HA3.out c3 c4 (by omega) HF.out.2.1 HF.out.2.2.1 HF.out.2.2.2.1 HF.out.2.2.2.2.1).mono ?_;rintro e4 w4 ⟨rfl,⟨K2,ha4,hk4⟩,hg4⟩;have HA4:=Ya ha4;have HF2:Aside0 (F2 M K2 N a mid e b):=⟨f2_rec HF.out hk4 b5 b6⟩;have HG4:Aside0 (Fr w w4 g):=⟨grow_trans HG3.out hg4⟩;clear ha4 hk4 hg4 HA3 HF HG3;by_cases c5:mid<e
        ·have hb5:decide ((mid:Int)<(e:Int))=true:=Yv (by omega)
         by_cases c6:e<b
         ·have hb6:decide ((e:Int)<(b:Int))=true:=Yv (by omega)
          go_wp2_with fail;refine(IH.out K2 mid e b _ (by omega) HA4.out c5 c6 hb HF2.out.2.1 HF2.out.2.2.1 HF2.out.2.2.2.2.1 HF2.out.2.2.2.2.2.1).mono ?_;rintro e5 w5 ⟨rfl,⟨K3,ha5,hk5⟩,hg5⟩;have HA5:=Ya ha5;have HS5:Aside0 (Sorted M K3 N a b):=⟨f3_rec HF2.out hk5 (by omega)⟩;have HG5:Aside0 (Fr w w5 g):=⟨grow_trans HG4.out hg5⟩;clear ha5 hk5 hg5 HA4 HF2 HG4;go_wp2_with fail;go_end0;exact⟨rfl,⟨K3,HA5.out,HS5.out⟩,HG5.out⟩
         ·have hb6:decide ((e:Int)<(b:Int))=false:=Yw (by omega)
          have HS5:Aside0 (Sorted M K2 N a b):=⟨f3_no HF2.out (Or.inr (by omega))⟩;clear HF2;go_wp2_with fail;go_end0;exact⟨rfl,⟨K2,HA4.out,HS5.out⟩,HG4.out⟩
        ·have hb5:decide ((mid:Int)<(e:Int))=false:=Yw (by omega)
         have HS5:Aside0 (Sorted M K2 N a b):=⟨f3_no HF2.out (Or.inl (by omega))⟩;clear HF2;go_wp2_with fail;go_end0;exact⟨rfl,⟨K2,HA4.out,HS5.out⟩,HG4.out⟩
       ·have hb4:decide ((s:Int)<(mid:Int))=false:=Yw (by omega)
        have HF2:Aside0 (F2 M K N a mid e b):=⟨f2_no HF.out (Or.inr (by omega))⟩;have HA4:=HA3;have HG4:=HG3;obtain⟨K2,rfl⟩: ∃ K2,K2=K:=⟨K,rfl⟩;clear HF HA3 HG3;by_cases c5:mid<e
        ·have hb5:decide ((mid:Int)<(e:Int))=true:=Yv (by omega)
         by_cases c6:e<b
         ·have hb6:decide ((e:Int)<(b:Int))=true:=Yv (by omega)
          go_wp2_with fail;refine(IH.out K2 mid e b _ (by omega) HA4.out c5 c6 hb HF2.out.2.1 HF2.out.2.2.1 HF2.out.2.2.2.2.1 HF2.out.2.2.2.2.2.1).mono ?_;rintro e5 w5 ⟨rfl,⟨K3,ha5,hk5⟩,hg5⟩;have HA5:=Ya ha5;have HS5:Aside0 (Sorted M K3 N a b):=⟨f3_rec HF2.out hk5 (by omega)⟩;have HG5:Aside0 (Fr w w5 g):=⟨grow_trans HG4.out hg5⟩;clear ha5 hk5 hg5 HA4 HF2 HG4;go_wp2_with fail;go_end0;exact⟨rfl,⟨K3,HA5.out,HS5.out⟩,HG5.out⟩
         ·have hb6:decide ((e:Int)<(b:Int))=false:=Yw (by omega)
          have HS5:Aside0 (Sorted M K2 N a b):=⟨f3_no HF2.out (Or.inr (by omega))⟩;clear HF2;go_wp2_with fail;go_end0;exact⟨rfl,⟨K2,HA4.out,HS5.out⟩,HG4.out⟩
        ·have hb5:decide ((mid:Int)<(e:Int))=false:=Yw (by omega)
         have HS5:Aside0 (Sorted M K2 N a b):=⟨f3_no HF2.out (Or.inl (by omega))⟩;clear HF2;go_wp2_with fail;go_end0;exact⟨rfl,⟨K2,HA4.out,HS5.out⟩,HG4.out⟩
      ·have hb3:decide ((a:Int)<(s:Int))=false:=Yw (by omega)
       have HF2:Aside0 (F2 M K N a mid e b):=⟨f2_no HF.out (Or.inl (by omega))⟩;have HA4:=HA3;have HG4:=HG3;obtain⟨K2,rfl⟩: ∃ K2,K2=K:=⟨K,rfl⟩;clear HF HA3 HG3;by_cases c5:mid<e
       ·have hb5:decide ((mid:Int)<(e:Int))=true:=Yv (by omega)
        by_cases c6:e<b
        ·have hb6:decide ((e:Int)<(b:Int))=true:=Yv (by omega)
         go_wp2_with fail;refine(IH.out K2 mid e b _ (by omega) HA4.out c5 c6 hb HF2.out.2.1 HF2.out.2.2.1 HF2.out.2.2.2.2.1 HF2.out.2.2.2.2.2.1).mono ?_;rintro e5 w5 ⟨rfl,⟨K3,ha5,hk5⟩,hg5⟩;have HA5:=Ya ha5;have HS5:Aside0 (Sorted M K3 N a b):=⟨f3_rec HF2.out hk5 (by omega)⟩;have HG5:Aside0 (Fr w w5 g):=⟨grow_trans HG4.out hg5⟩;clear ha5 hk5 hg5 HA4 HF2 HG4;go_wp2_with fail;go_end0;exact⟨rfl,⟨K3,HA5.out,HS5.out⟩,HG5.out⟩
        ·have hb6:decide ((e:Int)<(b:Int))=false:=Yw (by omega)
         have HS5:Aside0 (Sorted M K2 N a b):=⟨f3_no HF2.out (Or.inr (by omega))⟩;clear HF2;go_wp2_with fail;go_end0;exact⟨rfl,⟨K2,HA4.out,HS5.out⟩,HG4.out⟩
       ·have hb5:decide ((mid:Int)<(e:Int))=false:=Yw (by omega)
        have HS5:Aside0 (Sorted M K2 N a b):=⟨f3_no HF2.out (Or.inl (by omega))⟩;clear HF2;go_wp2_with fail;go_end0;exact⟨rfl,⟨K2,HA4.out,HS5.out⟩,HG4.out⟩
     ·have hb2:decide ((m:Int)<(e:Int))=false:=Yw (by omega)
      have HA3:Aside0 (Arr wr g N (rotM M s m e)):=⟨HA1.out.congr fun x _=>rot_none M (by omega) (by omega) (Or.inr (by omega)) x⟩;have HG3:=HG;clear HA1 HG;obtain⟨K,hK⟩: ∃ K,K=rotM M s m e:=⟨_,rfl⟩;rw[← hK] at HA3 HF;clear hK;by_cases c3:a<s
      ·have hb3:decide ((a:Int)<(s:Int))=true:=Yv (by omega)
       by_cases c4:s<mid
       ·have hb4:decide ((s:Int)<(mid:Int))=true:=Yv (by omega)
        go_wp2_with fail;refine(IH.out K a s mid _ (by omega) HA3.out c3 c4 (by omega) HF.out.2.1 HF.out.2.2.1 HF.out.2.2.2.1 HF.out.2.2.2.2.1).mono ?_;rintro e4 w4 ⟨rfl,⟨K2,ha4,hk4⟩,hg4⟩;have HA4:=Ya ha4;have HF2:Aside0 (F2 M K2 N a mid e b):=⟨f2_rec HF.out hk4 b5 b6⟩;have HG4:Aside0 (Fr w w4 g):=⟨grow_trans HG3.out hg4⟩;clear ha4 hk4 hg4 HA3 HF HG3;by_cases c5:mid<e
        ·have hb5:decide ((mid:Int)<(e:Int))=true:=Yv (by omega)
         by_cases c6:e<b
         ·have hb6:decide ((e:Int)<(b:Int))=true:=Yv (by omega)
          go_wp2_with fail;refine(IH.out K2 mid e b _ (by omega) HA4.out c5 c6 hb HF2.out.2.1 HF2.out.2.2.1 HF2.out.2.2.2.2.1 HF2.out.2.2.2.2.2.1).mono ?_;rintro e5 w5 ⟨rfl,⟨K3,ha5,hk5⟩,hg5⟩;have HA5:=Ya ha5;have HS5:Aside0 (Sorted M K3 N a b):=⟨f3_rec HF2.out hk5 (by omega)⟩;have HG5:Aside0 (Fr w w5 g):=⟨grow_trans HG4.out hg5⟩;clear ha5 hk5 hg5 HA4 HF2 HG4;go_wp2_with fail;go_end0;exact⟨rfl,⟨K3,HA5.out,HS5.out⟩,HG5.out⟩
         ·have hb6:decide ((e:Int)<(b:Int))=false:=Yw (by omega)
          have HS5:Aside0 (Sorted M K2 N a b):=⟨f3_no HF2.out (Or.inr (by omega))⟩;clear HF2;go_wp2_with fail;go_end0;exact⟨rfl,⟨K2,HA4.out,HS5.out⟩,HG4.out⟩
        ·have hb5:decide ((mid:Int)<(e:Int))=false:=Yw (by omega)
         have HS5:Aside0 (Sorted M K2 N a b):=⟨f3_no HF2.out (Or.inl (by omega))⟩;clear HF2;go_wp2_with fail;go_end0;exact⟨rfl,⟨K2,HA4.out,HS5.out⟩,HG4.out⟩
       ·have hb4:decide ((s:Int)<(mid:Int))=false:=Yw (by omega)
        have HF2:Aside0 (F2 M K N a mid e b):=⟨f2_no HF.out (Or.inr (by omega))⟩;have HA4:=HA3;have HG4:=HG3;obtain⟨K2,rfl⟩: ∃ K2,K2=K:=⟨K,rfl⟩;clear HF HA3 HG3;by_cases c5:mid<e
        ·have hb5:decide ((mid:Int)<(e:Int))=true:=Yv (by omega)
         by_cases c6:e<b
         ·have hb6:decide ((e:Int)<(b:Int))=true:=Yv (by omega)
          go_wp2_with fail;refine(IH.out K2 mid e b _ (by omega) HA4.out c5 c6 hb HF2.out.2.1 HF2.out.2.2.1 HF2.out.2.2.2.2.1 HF2.out.2.2.2.2.2.1).mono ?_;rintro e5 w5 ⟨rfl,⟨K3,ha5,hk5⟩,hg5⟩;have HA5:=Ya ha5;have HS5:Aside0 (Sorted M K3 N a b):=⟨f3_rec HF2.out hk5 (by omega)⟩;have HG5:Aside0 (Fr w w5 g):=⟨grow_trans HG4.out hg5⟩;clear ha5 hk5 hg5 HA4 HF2 HG4;go_wp2_with fail;go_end0;exact⟨rfl,⟨K3,HA5.out,HS5.out⟩,HG5.out⟩
         ·have hb6:decide ((e:Int)<(b:Int))=false:=Yw (by omega)
          have HS5:Aside0 (Sorted M K2 N a b):=⟨f3_no HF2.out (Or.inr (by omega))⟩;clear HF2;go_wp2_with fail;go_end0;exact⟨rfl,⟨K2,HA4.out,HS5.out⟩,HG4.out⟩
        ·have hb5:decide ((mid:Int)<(e:Int))=false:=Yw (by omega)
         have HS5:Aside0 (Sorted M K2 N a b):=⟨f3_no HF2.out (Or.inl (by omega))⟩;clear HF2;go_wp2_with fail;go_end0;exact⟨rfl,⟨K2,HA4.out,HS5.out⟩,HG4.out⟩
      ·have hb3:decide ((a:Int)<(s:Int))=false:=Yw (by omega)
       have HF2:Aside0 (F2 M K N a mid e b):=⟨f2_no HF.out (Or.inl (by omega))⟩;have HA4:=HA3;have HG4:=HG3;obtain⟨K2,rfl⟩: ∃ K2,K2=K:=⟨K,rfl⟩;clear HF HA3 HG3;by_cases c5:mid<e
       ·have hb5:decide ((mid:Int)<(e:Int))=true:=Yv (by omega)
        by_cases c6:e<b
        ·have hb6:decide ((e:Int)<(b:Int))=true:=Yv (by omega)
         go_wp2_with fail;refine(IH.out K2 mid e b _ (by omega) HA4.out c5 c6 hb HF2.out.2.1 HF2.out.2.2.1 HF2.out.2.2.2.2.1 HF2.out.2.2.2.2.2.1).mono ?_;rintro e5 w5 ⟨rfl,⟨K3,ha5,hk5⟩,hg5⟩;have HA5:=Ya ha5;have HS5:Aside0 (Sorted M K3 N a b):=⟨f3_rec HF2.out hk5 (by omega)⟩;have HG5:Aside0 (Fr w w5 g):=⟨grow_trans HG4.out hg5⟩;clear ha5 hk5 hg5 HA4 HF2 HG4;go_wp2_with fail;go_end0;exact⟨rfl,⟨K3,HA5.out,HS5.out⟩,HG5.out⟩
        ·have hb6:decide ((e:Int)<(b:Int))=false:=Yw (by omega)
         have HS5:Aside0 (Sorted M K2 N a b):=⟨f3_no HF2.out (Or.inr (by omega))⟩;clear HF2;go_wp2_with fail;go_end0;exact⟨rfl,⟨K2,HA4.out,HS5.out⟩,HG4.out⟩
       ·have hb5:decide ((mid:Int)<(e:Int))=false:=Yw (by omega)
        have HS5:Aside0 (Sorted M K2 N a b):=⟨f3_no HF2.out (Or.inl (by omega))⟩;clear HF2;go_wp2_with fail;go_end0;exact⟨rfl,⟨K2,HA4.out,HS5.out⟩,HG4.out⟩
    ·have hb1:decide ((s:Int)<(m:Int))=false:=Yw (by omega)
     have HA3:Aside0 (Arr wr g N (rotM M s m e)):=⟨HA1.out.congr fun x _=>rot_none M (by omega) (by omega) (Or.inl (by omega)) x⟩;have HG3:=HG;clear HA1 HG;obtain⟨K,hK⟩: ∃ K,K=rotM M s m e:=⟨_,rfl⟩;rw[← hK] at HA3 HF;clear hK;by_cases c3:a<s
     ·have hb3:decide ((a:Int)<(s:Int))=true:=Yv (by omega)
      by_cases c4:s<mid
      ·have hb4:decide ((s:Int)<(mid:Int))=true:=Yv (by omega)
       go_wp2_with fail;refine(IH.out K a s mid _ (by omega) HA3.out c3 c4 (by omega) HF.out.2.1 HF.out.2.2.1 HF.out.2.2.2.1 HF.out.2.2.2.2.1).mono ?_;rintro e4 w4 ⟨rfl,⟨K2,ha4,hk4⟩,hg4⟩;have HA4:=Ya ha4;have HF2:Aside0 (F2 M K2 N a mid e b):=⟨f2_rec HF.out hk4 b5 b6⟩;have HG4:Aside0 (Fr w w4 g):=⟨grow_trans HG3.out hg4⟩;clear ha4 hk4 hg4 HA3 HF HG3;by_cases c5:mid<e
       ·have hb5:decide ((mid:Int)<(e:Int))=true:=Yv (by omega)
        by_cases c6:e<b
        ·have hb6:decide ((e:Int)<(b:Int))=true:=Yv (by omega)
         go_wp2_with fail;refine(IH.out K2 mid e b _ (by omega) HA4.out c5 c6 hb HF2.out.2.1 HF2.out.2.2.1 HF2.out.2.2.2.2.1 HF2.out.2.2.2.2.2.1).mono ?_;rintro e5 w5 ⟨rfl,⟨K3,ha5,hk5⟩,hg5⟩;have HA5:=Ya ha5;have HS5:Aside0 (Sorted M K3 N a b):=⟨f3_rec HF2.out hk5 (by omega)⟩;have HG5:Aside0 (Fr w w5 g):=⟨grow_trans HG4.out hg5⟩;clear ha5 hk5 hg5 HA4 HF2 HG4;go_wp2_with fail;go_end0;exact⟨rfl,⟨K3,HA5.out,HS5.out⟩,HG5.out⟩
        ·have hb6:decide ((e:Int)<(b:Int))=false:=Yw (by omega)
         have HS5:Aside0 (Sorted M K2 N a b):=⟨f3_no HF2.out (Or.inr (by omega))⟩;clear HF2;go_wp2_with fail;go_end0;exact⟨rfl,⟨K2,HA4.out,HS5.out⟩,HG4.out⟩
       ·have hb5:decide ((mid:Int)<(e:Int))=false:=Yw (by omega)
        have HS5:Aside0 (Sorted M K2 N a b):=⟨f3_no HF2.out (Or.inl (by omega))⟩;clear HF2;go_wp2_with fail;go_end0;exact⟨rfl,⟨K2,HA4.out,HS5.out⟩,HG4.out⟩
      ·have hb4:decide ((s:Int)<(mid:Int))=false:=Yw (by omega)
       have HF2:Aside0 (F2 M K N a mid e b):=⟨f2_no HF.out (Or.inr (by omega))⟩;have HA4:=HA3;have HG4:=HG3;obtain⟨K2,rfl⟩: ∃ K2,K2=K:=⟨K,rfl⟩;clear HF HA3 HG3;by_cases c5:mid<e
       ·have hb5:decide ((mid:Int)<(e:Int))=true:=Yv (by omega)
        by_cases c6:e<b
        ·have hb6:decide ((e:Int)<(b:Int))=true:=Yv (by omega)
         go_wp2_with fail;refine(IH.out K2 mid e b _ (by omega) HA4.out c5 c6 hb HF2.out.2.1 HF2.out.2.2.1 HF2.out.2.2.2.2.1 HF2.out.2.2.2.2.2.1).mono ?_;rintro e5 w5 ⟨rfl,⟨K3,ha5,hk5⟩,hg5⟩;have HA5:=Ya ha5;have HS5:Aside0 (Sorted M K3 N a b):=⟨f3_rec HF2.out hk5 (by omega)⟩;have HG5:Aside0 (Fr w w5 g):=⟨grow_trans HG4.out hg5⟩;clear ha5 hk5 hg5 HA4 HF2 HG4;go_wp2_with fail;go_end0;exact⟨rfl,⟨K3,HA5.out,HS5.out⟩,HG5.out⟩
        ·have hb6:decide ((e:Int)<(b:Int))=false:=Yw (by omega)
         have HS5:Aside0 (Sorted M K2 N a b):=⟨f3_no HF2.out (Or.inr (by omega))⟩;clear HF2;go_wp2_with fail;go_end0;exact⟨rfl,⟨K2,HA4.out,HS5.out⟩,HG4.out⟩
       ·have hb5:decide ((mid:Int)<(e:Int))=false:=Yw (by omega)
        have HS5:Aside0 (Sorted M K2 N a b):=⟨f3_no HF2.out (Or.inl (by omega))⟩;clear HF2;go_wp2_with fail;go_end0;exact⟨rfl,⟨K2,HA4.out,HS5.out⟩,HG4.out⟩
     ·have hb3:decide ((a:Int)<(s:Int))=false:=Yw (by omega)
      have HF2:Aside0 (F2 M K N a mid e b):=⟨f2_no HF.out (Or.inl (by omega))⟩;have HA4:=HA3;have HG4:=HG3;obtain⟨K2,rfl⟩: ∃ K2,K2=K:=⟨K,rfl⟩;clear HF HA3 HG3;by_cases c5:mid<e
      ·have hb5:decide ((mid:Int)<(e:Int))=true:=Yv (by omega)
       by_cases c6:e<b
       ·have hb6:decide ((e:Int)<(b:Int))=true:=Yv (by omega)
        go_wp2_with fail;refine(IH.out K2 mid e b _ (by omega) HA4.out c5 c6 hb HF2.out.2.1 HF2.out.2.2.1 HF2.out.2.2.2.2.1 HF2.out.2.2.2.2.2.1).mono ?_;rintro e5 w5 ⟨rfl,⟨K3,ha5,hk5⟩,hg5⟩;have HA5:=Ya ha5;have HS5:Aside0 (Sorted M K3 N a b):=⟨f3_rec HF2.out hk5 (by omega)⟩;have HG5:Aside0 (Fr w w5 g):=⟨grow_trans HG4.out hg5⟩;clear ha5 hk5 hg5 HA4 HF2 HG4;go_wp2_with fail;go_end0;exact⟨rfl,⟨K3,HA5.out,HS5.out⟩,HG5.out⟩
       ·have hb6:decide ((e:Int)<(b:Int))=false:=Yw (by omega)
        have HS5:Aside0 (Sorted M K2 N a b):=⟨f3_no HF2.out (Or.inr (by omega))⟩;clear HF2;go_wp2_with fail;go_end0;exact⟨rfl,⟨K2,HA4.out,HS5.out⟩,HG4.out⟩
      ·have hb5:decide ((mid:Int)<(e:Int))=false:=Yw (by omega)
       have HS5:Aside0 (Sorted M K2 N a b):=⟨f3_no HF2.out (Or.inl (by omega))⟩;clear HF2;go_wp2_with fail;go_end0;exact⟨rfl,⟨K2,HA4.out,HS5.out⟩,HG4.out⟩
theorem sym_ok (g N cap:Nat) (hN:N≤1000000): ∀ d,SymOk g N cap d
 |0=>fun M a m b w hd h h1 h2 hb hs hsm l1 l2=>by omega
 |d+1=>fun M a m b w hd h h1 h2 hb hs hsm l1 l2=>by
  by_cases e1:m=a+1
  ·subst e1
   have:=symLo_calls g N cap M a b w h hN h2 hb hs hsm l2;exact this
  ·by_cases e2:b=m+1
   ·subst e2
    have:=symHi_calls g N cap M a m w h hN (by omega) hb hs hsm l1;exact this
   ·exact symMid_calls g N cap d (sym_ok g N cap hN d) M a m b w hd h hN (by omega) (by omega) hb hs hsm l1 l2
end H
namespace H
open P
def Blk (K:Nat→S38) (bs lo hi:Nat):Prop:= ∀ t i j,t * bs+lo≤i→i<j→j<t * bs+bs+lo→j<hi→(K i).f0≤(K j).f0
theorem blk_shift {K:Nat→S38} {bs lo hi:Nat} (h:Blk K bs lo hi):Blk K bs (lo+bs) hi:=fun t i j h1 h2 h3 h4=>by
 have e:(t+1) * bs=t * bs+bs:=Nat.succ_mul t bs;exact h (t+1) i j (by omega) h2 (by omega) h4
theorem blk_head {K:Nat→S38} {bs lo hi c:Nat} (h:Blk K bs lo hi) (h1:c≤lo+bs) (h2:c≤hi):Le K lo c:=fun i j k1 k2 k3=>h 0 i j (by omega) k2 (by omega) (by omega)
theorem blk_snoc {K:Nat→S38} {bs a c k:Nat} (h:Blk K bs 0 a) (ha:a=k * bs) (hl:Le K a c):Blk K bs 0 c:=fun t i j h1 h2 h3 h4=>by
 by_cases e1:j<a
 ·exact h t i j h1 h2 h3 e1
 ·by_cases e2:a≤i
  ·exact hl i j e2 h2 h4
  ·exfalso
   have e:(t+1) * bs=t * bs+bs:=Nat.succ_mul t bs;have l1:t * bs<k * bs:=by omega
   have l2:k * bs<(t+1) * bs:=by omega
   have:=Nat.lt_of_mul_lt_mul_right l1;have:=Nat.lt_of_mul_lt_mul_right l2;omega
theorem blk_mix {K L:Nat→S38} {bs lo hi c d:Nat} (h:Blk K bs lo hi) (hm:Mix K L c d) (hd:hi≤c∨d≤lo):Blk L bs lo hi:=fun t i j h1 h2 h3 h4=>by
 rw[hm.1 i (by omega),hm.1 j (by omega)];exact h t i j h1 h2 h3 h4
theorem blk_nil (K:Nat→S38) (bs lo:Nat):Blk K bs lo lo:=fun t i j h1 h2 h3 h4=>by omega
def Base3 (M K:Nat→S38) (N:Nat):Prop:=Mix M K 0 N∧Stab K N∧Small K N
theorem base_more {M K L:Nat→S38} {N a b:Nat} (h:Base3 M K N) (hl:Sorted K L N a b) (hb:b≤N):Base3 M L N:=⟨mix_trans h.1 (mix_wide hl.1 (Nat.zero_le _) hb),hl.2.1,hl.2.2.1⟩
set_option maxHeartbeats 2000000 in
set_option maxRecDepth 100000 in
theorem stable_calls (g N cap:Nat) (M:Nat→S38) (w:World) (h:Arr w g N M) (hN:N≤1000000) (hs:Stab M N) (hsm:Small M N):
  Calls Try.prog 162 #[.slice (some ⟨g,0,none⟩) N cap, .int .i64 (N:Int), .func (.func 144) #[] #[]] w fun e w'=>e= .returned (.tuple #[])∧(∃ K,Arr w' g N K∧Sorted M K N 0 N)∧Fr w w' g:=by
 have HA:=Ya h;have HB:=Ya (show Base3 M M N from⟨mix_refl _ _ _,hs,hsm⟩);clear h hs hsm;go_enter Try.func162,Try.ntmps162;go_wp2_with fail;go_loopw [7,8] (fun va vb wr=> ∃ a:Nat,a≤N∧va= .int .i64 a∧vb= .int .i64 ((a:Int)+20)∧(∃ k,Aside0 (a=k * 20))∧(∃ K,Aside0 (Arr wr g N K)∧Aside0 (Base3 M K N)∧Aside0 (Blk K 20 0 a))∧Aside0 (Fr w wr g)) (fun va _ _=>N+1 - (intOf va).toNat)
 case atStart=>exact⟨0,by omega,by go_num,by go_num,⟨0,⟨rfl⟩⟩,⟨M,HA,HB,⟨blk_nil _ _ _⟩⟩,⟨grow_refl _ _⟩⟩
 case round=>
  clear HA HB;obtain⟨a,haN,rfl,rfl,⟨k,hk⟩,⟨K,HA1,HB1,HK⟩,HG⟩:=hrel;by_cases hlt:a+20≤N
  ·have hz:(a:Int)+20=((a+20:Nat):Int):=by omega
   have hcb:decide (((a+20:Nat):Int)≤(N:Int))=true:=Yv (by omega);rw[hz];clear hz;go_wp2_with fail;refine(insertion_calls g N cap K a (a+20) _ HA1.out hN (by omega) hlt HB1.out.2.1 HB1.out.2.2).mono ?_;rintro e1 w1 ⟨rfl,⟨K1,ha1,hk1⟩,hg1⟩;have HA2:=Ya ha1;have HB2:Aside0 (Base3 M K1 N):=⟨base_more HB1.out hk1 hlt⟩;have HK2:Aside0 (Blk K1 20 0 (a+20)):=⟨blk_snoc (blk_mix HK.out hk1.1 (Or.inl (Nat.le_refl _))) hk.out hk1.2.2.2⟩;have HG2:Aside0 (Fr w w1 g):=⟨grow_trans HG.out hg1⟩;have hk2:Aside0 (a+20=(k+1) * 20):=by have:=hk.out;exact⟨by omega⟩
   clear ha1 hk1 hg1 HA1 HB1 HK HG hk;go_wp2_with fail;go_roundw
   case rel=>exact⟨a+20,hlt,rfl,by go_num,⟨k+1,hk2⟩,⟨K1,HA2,HB2,HK2⟩,HG2⟩
   case measure=>simp[intOf]<;>omega
  ·have hcb:decide ((a:Int)+20≤(N:Int))=false:=Yw (by omega)
   go_wp2_with fail;refine(insertion_calls g N cap K a N _ HA1.out hN haN (Nat.le_refl _) HB1.out.2.1 HB1.out.2.2).mono ?_;rintro e1 w1 ⟨rfl,⟨K1,ha1,hk1⟩,hg1⟩;have HA2:=Ya ha1;have HB2:Aside0 (Base3 M K1 N):=⟨base_more HB1.out hk1 (Nat.le_refl _)⟩;have HK2:Aside0 (Blk K1 20 0 N):=⟨blk_snoc (blk_mix HK.out hk1.1 (Or.inl (Nat.le_refl _))) hk.out hk1.2.2.2⟩;have HG2:Aside0 (Fr w w1 g):=⟨grow_trans HG.out hg1⟩;clear ha1 hk1 hg1 HA1 HB1 HK HG hk hcb;go_wp2_with fail;go_loopw [6] (fun vs wr=> ∃ s:Nat,0<s∧s≤2000020∧vs= .int .i64 s∧(∃ K,Aside0 (Arr wr g N K)∧Aside0 (Base3 M K N)∧Aside0 (Blk K s 0 N))∧Aside0 (Fr w wr g)) (fun vs _=>N - (intOf vs).toNat)
   case atStart=>exact⟨20,by omega,by omega,by go_num,⟨K1,HA2,HB2,HK2⟩,HG2⟩
   case round=>
    clear HA2 HB2 HK2 HG2;obtain⟨s,hs0,hs1,rfl,⟨K,HA1,HB1,HK⟩,HG⟩:=hrel;by_cases hsn:s<N
    ·obtain⟨s2,hs2⟩: ∃ s2,2 * s=s2:=⟨_,rfl⟩
     have hz:(2:Int) * (s:Int)=(s2:Int):=by omega
     have hz3:(s:Int) * 2=(s2:Int):=by omega
     have bs2:s2≤2000000:=by omega
     have hcs:decide ((s:Int)<(N:Int))=true:=Yv (by omega);have HS:=Ya hs2;have HK0:Aside0 (Blk K s2 0 0∧Blk K s 0 N):=⟨blk_nil _ _ _,HK.out⟩;clear HK hs2;go_wp2_with fail;obtain⟨wo,rfl⟩: ∃ wo:World,wo=wr:=⟨_,rfl⟩;go_loopw [7,8] (fun va vb wr=> ∃ a b:Nat,a≤N∧va= .int .i64 a∧vb= .int .i64 b∧Aside0 (a+s2=b)∧(∃ k,Aside0 (a=k * s2))∧(∃ K,Aside0 (Arr wr g N K)∧Aside0 (Base3 M K N)∧Aside0 (Blk K s2 0 a∧Blk K s a N))∧Aside0 (Fr w wr g)) (fun va _ _=>N+1 - (intOf va).toNat)
     case atStart=>exact⟨0,s2,by omega,by go_num,rfl,⟨by omega⟩,⟨0,⟨by omega⟩⟩,⟨K,HA1,HB1,HK0⟩,HG⟩
     case round=>
      clear HA1 HB1 HK0 HG;obtain⟨a,b,haN,rfl,rfl,HBB,⟨k,hk⟩,⟨K,HA1,HB1,HK⟩,HG⟩:=hrel;obtain⟨m,hm⟩: ∃ m,a+s=m:=⟨_,rfl⟩;have hz2:(a:Int)+(s:Int)=(m:Int):=by omega
      have HM:=Ya hm;clear hm;by_cases hlt:b≤N
      ·have hcb:decide ((b:Int)≤(N:Int))=true:=Yv (by omega)
       go_wp2_with fail;refine(sym_ok g N cap hN N K a m b _ (by omega) HA1.out (by have:=HM.out;omega) (by have:=HM.out;have:=HBB.out;have:=HS.out;omega) hlt HB1.out.2.1 HB1.out.2.2 (blk_head HK.out.2 (by have:=HM.out;omega) (by have:=HM.out;have:=HBB.out;have:=HS.out;omega)) (blk_head (by rw[← HM.out];exact blk_shift HK.out.2) (by have:=HM.out;have:=HBB.out;have:=HS.out;omega) hlt)).mono ?_;rintro e1 w1 ⟨rfl,⟨K1,ha1,hk1⟩,hg1⟩;have HA2:=Ya ha1;have HB2:Aside0 (Base3 M K1 N):=⟨base_more HB1.out hk1 hlt⟩;have HK2:Aside0 (Blk K1 s2 0 b∧Blk K1 s b N):=⟨blk_snoc (blk_mix HK.out.1 hk1.1 (Or.inl (Nat.le_refl _))) hk.out hk1.2.2.2,blk_mix (by rw[show b=a+s+s by have:=HBB.out;have:=HS.out;omega];exact blk_shift (blk_shift HK.out.2)) hk1.1 (Or.inr (Nat.le_refl _))⟩;have HG2:Aside0 (Fr w w1 g):=⟨grow_trans HG.out hg1⟩;have hk2:Aside0 (b=(k+1) * s2):=⟨by rw[Nat.succ_mul, ← hk.out,HBB.out]⟩;have hlb:Aside0 (a<b):=⟨by have:=HBB.out;have:=HS.out;omega⟩;clear ha1 hk1 hg1 HA1 HB1 HK HG hk HBB HM;go_wp2_with fail;go_roundw
       case rel=>exact⟨b,b+s2,hlt,rfl,by rw[Int.natCast_add],⟨rfl⟩,⟨k+1,hk2⟩,⟨K1,HA2,HB2,HK2⟩,HG2⟩
       case measure=>have:=hlb.out;simp[intOf]<;>omega
      ·have hcb:decide ((b:Int)≤(N:Int))=false:=Yw (by omega)
       have hsp:Aside0 (0<s2∧s<s2):=⟨by have:=HS.out;omega⟩;by_cases hmn:m<N
       ·have hcm:decide ((m:Int)<(N:Int))=true:=Yv (by omega)
        go_wp2_with fail;refine(sym_ok g N cap hN N K a m N _ (by omega) HA1.out (by have:=HM.out;omega) hmn (Nat.le_refl _) HB1.out.2.1 HB1.out.2.2 (blk_head HK.out.2 (by have:=HM.out;omega) (by omega)) (blk_head (by rw[← HM.out];exact blk_shift HK.out.2) (by have:=HM.out;have:=HBB.out;have:=HS.out;omega) (Nat.le_refl _))).mono ?_;rintro e1 w1 ⟨rfl,⟨K1,ha1,hk1⟩,hg1⟩;have HA2:=Ya ha1;have HB2:Aside0 (Base3 M K1 N):=⟨base_more HB1.out hk1 (Nat.le_refl _)⟩;have HK2:Aside0 (Blk K1 s2 0 N):=⟨blk_snoc (blk_mix HK.out.1 hk1.1 (Or.inl (Nat.le_refl _))) hk.out hk1.2.2.2⟩;have HG2:Aside0 (Fr w w1 g):=⟨grow_trans HG.out hg1⟩;clear ha1 hk1 hg1 HA1 HB1 HK HG hk HBB HM;go_wp2_with fail;go_roundw
        case rel=>exact⟨s2,hsp.out.1,by omega,rfl,⟨K1,HA2,HB2,HK2⟩,HG2⟩
        case measure=>have:=hsp.out;simp[intOf]<;>omega
       ·have hcm:decide ((m:Int)<(N:Int))=false:=Yw (by omega)
        have HK2:Aside0 (Blk K s2 0 N):=⟨blk_snoc HK.out.1 hk.out (blk_head HK.out.2 (by have:=HM.out;omega) (Nat.le_refl _))⟩;clear HK hk HBB HM;go_wp2_with fail;go_roundw
        case rel=>exact⟨s2,hsp.out.1,by omega,rfl,⟨K,HA1,HB1,HK2⟩,HG⟩
        case measure=>have:=hsp.out;simp[intOf]<;>omega
    ·have hcs:decide ((s:Int)<(N:Int))=false:=Yw (by omega)
     go_wp2_with fail;go_end0;exact⟨rfl,⟨K,HA1.out,HB1.out.1,HB1.out.2.1,HB1.out.2.2,blk_head HK.out (by omega) (Nat.le_refl _)⟩,HG.out⟩
theorem sortStable_calls (g N cap:Nat) (M:Nat→S38) (w:World) (h:Arr w g N M) (hN:N≤1000000) (hs:Stab M N) (hsm:Small M N):
  Calls Try.prog 143 #[.slice (some ⟨g,0,none⟩) N cap, .func (.func 144) #[] #[]] w fun e w'=>e= .returned (.tuple #[])∧(∃ K,Arr w' g N K∧Sorted M K N 0 N)∧Fr w w' g:=by
 go_enter Try.func143,Try.ntmps143;go_wp2_with fail;refine(stable_calls g N cap M w h hN hs hsm).mono ?_;rintro e1 w1 ⟨rfl,h1,h2⟩;go_wp2_with fail;go_end0;exact⟨rfl,h1,h2⟩
end H
namespace H
open P
theorem arr_of_R {w:World} {base g cap:Nat} {ok:Nat→Prop} {xs:List S38} (h:Kd.R k38 38 w base ok (.slice (some ⟨g,0,none⟩) xs.length cap) xs) (hp:0<xs.length):Arr w g xs.length fun i=>xs.getD i z38:=by
 obtain⟨g2,cap2,e,_,_,cells,hb⟩:=Kd.R_form h hp;have eg:g=g2:=by
  injection e with e1 e2 e3
  injection e1 with e1
  injection e1
 subst eg;refine⟨cells,hb,fun x hx=> ?_⟩;obtain⟨ad,ea,h1,h2⟩:=at_T38 (Kd.R_reads' h).2.2 (x:Int) (by omega) (by omega);injection ea with ea
 subst ea;simp only[Int.toNat_natCast,add_plain] at h1 h2;constructor
 ·have:=h1
  simp only[World.cell?,hb] at this
  simpa [rd_T38] using this
 ·have:=h2
  simp only[World.cell?,hb] at this
  simpa [rd_T38] using this
theorem R_of_arr {w w':World} {base g N cap:Nat} {ok ok':Nat→Prop} {xs:List S38} {K:Nat→S38} (h:Kd.R k38 38 w base ok (.slice (some ⟨g,0,none⟩) xs.length cap) xs) (hN:xs.length=N) (hp:0<N) (ha:Arr w' g N K) (hf:Fr w w' g) (hok:ok' g):
  Kd.R k38 38 w' base ok' (.slice (some ⟨g,0,none⟩) N cap) ((List.range N).map K):=by
 obtain⟨h0,inner,ho,hr⟩:=h;obtain⟨cells',hb',hc⟩:=ha;obtain⟨_,hq⟩:=ho;rcases hq with ⟨e,_⟩|⟨g2,cap2,cur,e,hbase,hb,hn,hm,hs,ht⟩
 ·injection e with e1;cases e1
 ·injection e with e1 e2 e3
  injection e1 with e1
  injection e1 with e1
  subst e1;subst e3;obtain⟨c2,hb2,hs2⟩:=hf.2 _ _ _ hb;have ec:c2=cells':=by
   have:=hb2.symm.trans hb';injection this with this
   injection this
  subst ec;have hlen:(c2.toList.take (N * 2)).length=N * 2:=by
   rw[List.length_take,Array.length_toList,hs2,hs];have:N≤cap:=by omega
   have:N * 2≤cap * 2:=Nat.mul_le_mul_right _ this;show min (N * 2) (cap * 2)=N * 2;omega
  refine⟨fun k hk=> ?_,c2.toList.take (N * 2),⟨?_,Or.inr ⟨g,cap,c2,?_,hbase,hb2,?_,hm,by rw[hs2,hs],?_⟩⟩,?_,fun j p hj=> ?_⟩
  ·have:g=k:=by simpa [Value.ownBlock] using hk
   subst this;exact hok
  ·rw[hlen,List.length_map,List.length_range];rfl
  ·rw[List.length_map,List.length_range]
  ·rw[List.length_map,List.length_range];omega
  ·rw[List.length_map,List.length_range];rfl
  ·rw[hlen,List.length_map,List.length_range];rfl
  ·rw[List.getElem?_map] at hj
   obtain⟨q,hq,rfl⟩:=Option.map_eq_some_iff.1 hj;have hjN:j<N:=by
    have:=(List.getElem?_eq_some_iff.1 hq).1
    rwa [List.length_range] at this
   have eq:q=j:=by
    rw[List.getElem?_range hjN] at hq;injection hq with hq;exact hq.symm
   subst eq;have e:((c2.toList.take (N * 2)).drop (q * 2)).take 2=[.int .i64 (K q).f0, .bool (K q).f1]:=by
    obtain⟨c0,c1⟩:=hc q hjN;apply List.ext_getElem?;intro m;rw[List.getElem?_take,List.getElem?_drop,List.getElem?_take]
    match m with
    |0=>rw[Yx (by omega),Yx (by omega),Nat.add_zero,Array.getElem?_toList,c0];rfl
    |1=>rw[Yx (by omega),Yx (by omega),Array.getElem?_toList,c1];rfl
    |m+2=>rw[Yy (by omega)];rfl
   show (Kd.M k38 w' base _ (K q) (((c2.toList.take (N * 2)).drop (q * 2)).take 2));rw[e];exact k38_mkM _ _ _ _
theorem stab_of_list {xs:List S38} (h:xs.Pairwise fun x y=>x.f0=y.f0→x.f1=false∧y.f1=true):Stab (fun i=>xs.getD i z38) xs.length:=by
 intro i j hij hj e;rw[List.pairwise_iff_getElem] at h;have hi:i<xs.length:=by omega
 simp only[List.getD_eq_getElem?_getD,List.getElem?_eq_getElem hi,List.getElem?_eq_getElem hj,Option.getD_some] at e ⊢;exact h i j hi hj hij e
theorem small_steps {l:List S74} {n:Nat} {v:Int} (hv0:0≤v) (hv:v<n) (hE:ends l n) (hl:l.length≤1000000):Small (fun i=>(stepsU l n v).getD i z38) (stepsU l n v).length:=by
 intro i hi;simp only[List.getD_eq_getElem?_getD,List.getElem?_eq_getElem hi,Option.getD_some];obtain⟨k,h1,h2,_⟩:=(mem_stepsU l n v hv0 hv hE _).1 (List.getElem_mem hi);rw[h2];omega
theorem sorted_is {l:List S74} {n:Nat} {v:Int} {K:Nat→S38} (hv0:0≤v) (hv:v<n) (hE:ends l n)
  (h:Sorted (fun i=>(stepsU l n v).getD i z38) K (stepsU l n v).length 0 (stepsU l n v).length):(List.range (stepsU l n v).length).map K=stL l v l.length:=by
 obtain⟨⟨_,m1,m2⟩,hst,_,hle⟩:=h;refine sorted_uniq _ _ ?_ (sorted_stL l v l.length) fun s=> ?_
 ·rw[List.pairwise_map]
  refine List.Pairwise.imp_of_mem (R:=(· < ·)) (fun {a b} ha hb hab=> ?_) List.pairwise_lt_range;rw[List.mem_range] at ha hb;have:=hle a b (Nat.zero_le _) hab hb;by_cases e:(K a).f0=(K b).f0
  ·exact Or.inr ⟨e,hst a b hab hb e⟩
  ·exact Or.inl (by omega)
 ·rw[mem_stL, ← mem_stepsU l n v hv0 hv hE,List.mem_map]
  constructor
  ·rintro⟨i,hi,rfl⟩
   rw[List.mem_range] at hi;obtain⟨y,_,hy,e⟩:=m1 i (Nat.zero_le _) hi;rw[e];simp only[List.getD_eq_getElem?_getD,List.getElem?_eq_getElem hy,Option.getD_some];exact List.getElem_mem hy
  ·intro hs
   obtain⟨y,hy,e⟩:=List.mem_iff_getElem.1 hs;obtain⟨x,_,hx,e2⟩:=m2 y (Nat.zero_le _) hy;refine⟨x,List.mem_range.2 hx,?_⟩;rw[e2];simp only[List.getD_eq_getElem?_getD,List.getElem?_eq_getElem hy,Option.getD_some];exact e
def rowsAt (l:List S74) (n k:Nat):List (List S38):=(List.range n).map fun v=>if v<k then stL l v l.length else []
theorem rowsAt_len (l:List S74) (n k:Nat):(rowsAt l n k).length=n:=by
 unfold rowsAt;rw[List.length_map,List.length_range]
theorem rowsAt_get (l:List S74) (n k v:Nat) (hv:v<n):(rowsAt l n k)[v]? =some (if v<k then stL l v l.length else []):=by
 unfold rowsAt;rw[List.getElem?_map,List.getElem?_range hv];rfl
theorem rowsAt_zero (l:List S74) (n:Nat):rowsAt l n 0=List.replicate n []:=by
 apply List.ext_getElem?;intro v;by_cases hv:v<n
 ·rw[rowsAt_get l n 0 v hv,List.getElem?_replicate,Yx hv,Yy (by omega)]
 ·rw[List.getElem?_eq_none (by rw[rowsAt_len];omega),List.getElem?_eq_none (by rw[List.length_replicate];omega)]
theorem rowsAt_set (l:List S74) (n k:Nat) (hk:k<n):(rowsAt l n k).set k (stL l k l.length)=rowsAt l n (k+1):=by
 apply List.ext_getElem?;intro v;by_cases hv:v<n
 ·rw[rowsAt_get l n (k+1) v hv]
  by_cases e:k=v
  ·subst e
   rw[List.getElem?_set_self (by rw[rowsAt_len];exact hk),Yx (by omega)]
  ·rw[List.getElem?_set_ne e,rowsAt_get l n k v hv]
   by_cases c:v<k
   ·rw[Yx c,Yx (by omega)]
   ·rw[Yy c,Yy (by omega)]
 ·rw[List.getElem?_eq_none (by rw[List.length_set,rowsAt_len];omega),List.getElem?_eq_none (by rw[rowsAt_len];omega)]
theorem rowsAt_self (l:List S74) (n k:Nat) (hk:k<n):(rowsAt l n k).set k []=rowsAt l n k:=by
 apply List.ext_getElem?;intro v;by_cases e:k=v
 ·subst e
  rw[List.getElem?_set_self (by rw[rowsAt_len];exact hk),rowsAt_get l n k k hk,Yy (by omega)]
 ·rw[List.getElem?_set_ne e]
theorem rd_set (X:List (List S38)) (k:Nat) (r:List S38) (hk:k<X.length):rd_L4 (X.set k r) (k:Int)=r:=by
 unfold rd_L4;rw[List.getD_eq_getElem?_getD,Int.toNat_natCast,List.getElem?_set_self hk];rfl
end H
namespace H
open P
structure Right (l:List S74) (F:List Int) (n:Nat):Prop where
 pos:0<n
 fifty:n≤50
 arcs:l.length≤200
 len:F.length=l.length
 ends:ends l n
 nums: ∀ i:Nat,i<l.length→0≤(rd_T74 l i).f3∧(rd_T74 l i).f3≤1048576∧0≤F.getD i 0∧F.getD i 0≤(rd_T74 l i).f2∧(rd_T74 l i).f2≤1048576
theorem stL_len (l:List S74) (v:Int) (k:Nat):(stL l v k).length≤2 * k:=by
 induction k with
 |zero=>exact Nat.le_refl _
 |succ k ih=>
  unfold stL;rw[List.length_append,List.length_append];split<;>split<;>simp<;>omega
def StepOf (l:List S74) (s:S38):Prop:= ∃ i:Nat,i<l.length∧s.f0=i
theorem stL_of {l:List S74} {v:Int} {s:S38} (h:s∈stL l v l.length):StepOf l s:=by
 obtain⟨i,h1,h2,_⟩:=(mem_stL l v l.length s).1 h;exact⟨i,h1,h2⟩
theorem stL_from {l:List S74} {v:Int} {s:S38} (h:s∈stL l v l.length):stFrom l s=v:=by
 obtain⟨i,h1,h2,h3⟩:=(mem_stL l v l.length s).1 h;unfold stFrom;rw[h2];rcases h3 with ⟨h3,h4⟩|⟨h3,h4⟩
 ·rw[h3];exact h4
 ·rw[h3];exact h4
theorem stTo_in {l:List S74} {F:List Int} {n:Nat} (hr:Right l F n) {s:S38} (hs:StepOf l s):0≤stTo l s∧stTo l s<n:=by
 obtain⟨i,h1,h2⟩:=hs;have:=hr.ends i h1;unfold stTo;rw[h2];split
 ·exact this.1
 ·exact this.2
theorem to_f {l:List S74} {F:List Int} {n:Nat} (hr:Right l F n) {s:S38} (hs:StepOf l s) (a:Int) (b:Bool):static_Flowing_To.f a b l F s.f0 s.f1=some (stTo l s):=by
 obtain⟨i,h1,h2⟩:=hs;unfold static_Flowing_To.f static_Flowing_From.f stTo eFrom eTo;rw[h2];cases s.f1<;>simp[h1]
theorem room_f {l:List S74} {F:List Int} {n:Nat} (hr:Right l F n) {s:S38} (hs:StepOf l s) (a:Int) (b:Bool):static_Flowing_Room.f a b l F s.f0 s.f1=some (stRoom l F s):=by
 obtain⟨i,h1,h2⟩:=hs;have h3:=hr.nums i h1;have h4:=hr.len;unfold static_Flowing_Room.f stRoom;rw[h2];have e:rd F (i:Int)=F.getD i 0:=by unfold rd;rw[Int.toNat_natCast]
 cases s.f1
 ·have:wrap64 ((rd_T74 l i).f2 - F.getD i 0)=(rd_T74 l i).f2 - F.getD i 0:=by unfold wrap64;omega
  rw[Yy (by simp),Yx (by omega),Yx (by omega),Yx (by omega),Yy (by simp),e,this,Int.toNat_natCast]
 ·rw[Yx rfl,Yx (by omega),Yx (by omega),Yx rfl,e,Int.toNat_natCast]
end H
namespace H
open P
structure Ks (S:Nat→Prop) (w w':World):Prop where
 os:w'.os=w.os
 tape:w'.tape=w.tape
 output:w'.output=w.output
 size:w.heap.size≤w'.heap.size
 block: ∀ k,k<w.heap.size→ ¬ S k→w'.heap[k]? =w.heap[k]?
section
variable {S T:Nat→Prop} {w w1 w2:World}
theorem Ks.refl (S:Nat→Prop) (w:World):Ks S w w:=⟨rfl,rfl,rfl,Nat.le_refl _,fun _ _ _=>rfl⟩
theorem Ks.trans (h:Ks S w w1) (k:Ks T w1 w2) (hT: ∀ b,T b→b<w.heap.size→S b):Ks S w w2:=
 ⟨k.os.trans h.os,k.tape.trans h.tape,k.output.trans h.output,Nat.le_trans h.size k.size,fun b hb hs=>(k.block b (Nat.lt_of_lt_of_le hb h.size) (fun ht=>hs (hT b ht hb))).trans (h.block b hb hs)⟩
theorem Ks.of_below (h:Below w.heap.size w w1) (S:Nat→Prop):Ks S w w1:=⟨h.os,h.tape,h.output,h.size,fun b hb _=>h.block b hb⟩
theorem Ks.below (h:Ks S w w1) (hb:Below w1.heap.size w1 w2):Ks S w w2:=h.trans (Ks.of_below hb (fun _=>False)) (fun _ h=>h.elim)
theorem Ks.trans' {w0:World} (h:Ks S w w1) (hb:Below w0.heap.size w0 w):Ks S w0 w1:=(Ks.of_below hb S).trans h (fun _ h _=>h)
theorem Ks.set (h:Ks S w w1) {g:Nat} (hg:g<w.heap.size→S g) (j:Nat) (u:Value):Ks S w (w1.setCell ⟨g,j,none⟩ u):=
 ⟨h.os,h.tape,h.output,by simpa [World.setCell] using h.size,fun k hk hs=>(Below.heap_setCell w1 ⟨g,j,none⟩ u k (by rintro rfl;exact hs (hg hk))).trans (h.block k hk hs)⟩
theorem Ks.mono (h:Ks S w w1) (hT: ∀ b,S b→b<w.heap.size→T b):Ks T w w1:=⟨h.os,h.tape,h.output,h.size,fun b hb ht=>h.block b hb (fun hs=>ht (hT b hs hb))⟩
theorem Ks.toBelow {B:Nat} {w0:World} (h:Ks S w w1) (hb:Below B w0 w) (hB:B≤w.heap.size) (hS: ∀ b,S b→B≤b):Below B w0 w1:=
 hb.trans ⟨h.os,h.tape,h.output,h.size,fun k hk=>h.block k (by omega) (fun hs=>by have:=hS k hs;omega)⟩
theorem Ks.blk (h:Ks S w w1) {g:Nat} {o:Obj} (hb:w.heap[g]? =some o) (hs: ¬ S g):w1.heap[g]? =some o:=(h.block g (blk_lt hb) hs).trans hb
theorem Ks.R {α:Type} {d:Kd α} {e base:Nat} {ok:Nat→Prop} {v:Value} {xs:List α} (h:Ks S w w1) (hr:d.R e w base ok v xs) (hok: ∀ k,ok k→k<w.heap.size→ ¬ S k):d.R e w1 base ok v xs:=Kd.R_step hr (fun k ho hlt=>h.block k hlt (hok k ho hlt))
end
structure Qu (w:World) (g:Nat) (A:Option Addr) (R:List Int) (fr sz mo:Nat):Prop where
 hd:w.heap[g]? =some (.cells #[.slice A R.length R.length, .int .i64 (fr:Nat), .int .i64 (sz:Nat), .int .i64 (mo:Nat)] 193 (0,0))
 ring:(A=none∧R=[])∨ ∃ b,A=some ⟨b,0,none⟩∧0<R.length∧w.heap[b]? =some (.cells (nums .i64 R).toArray 3 (0,0))
 szr:sz≤R.length
 frr:fr<R.length∨fr=0∧R=[]
 szm:sz≤mo
 mo50:mo≤50
 len:R.length≤200
def quS (g:Nat) (A:Option Addr) (k:Nat):Prop:=k=g∨ ∃ a,A=some a∧k=a.block
def qL (R:List Int) (fr sz:Nat):List Int:=(List.range sz).map fun i=>R.getD ((fr+i) % R.length) 0
theorem Qu.step {w w1:World} {g:Nat} {A:Option Addr} {R:List Int} {fr sz mo:Nat} (h:Qu w g A R fr sz mo) (hb: ∀ k,k<w.heap.size→quS g A k→w1.heap[k]? =w.heap[k]?):Qu w1 g A R fr sz mo:=by
 refine⟨(hb g (blk_lt h.hd) (.inl rfl)).trans h.hd,?_,h.szr,h.frr,h.szm,h.mo50,h.len⟩;rcases h.ring with h1|⟨b,h1,h2,h3⟩
 ·exact .inl h1
 ·exact .inr ⟨b,h1,h2,(hb b (blk_lt h3) (.inr ⟨_,h1,rfl⟩)).trans h3⟩
theorem Qu.below {w w1:World} {g:Nat} {A:Option Addr} {R:List Int} {fr sz mo:Nat} (h:Qu w g A R fr sz mo) (hb:Below w.heap.size w w1):Qu w1 g A R fr sz mo:=h.step fun k hk _=>hb.block k hk
theorem Qu.ne {w:World} {g b:Nat} {R:List Int} {fr sz mo:Nat} (h:Qu w g (some ⟨b,0,none⟩) R fr sz mo):g≠b:=by
 rcases h.ring with ⟨h1,_⟩|⟨c,h1,h2,h3⟩
 ·cases h1
 ·cases h1
  exact blk_ne h.hd h3 (by decide)
theorem nums_get (R:List Int) (j:Nat) (h:j<R.length):(nums .i64 R).toArray[j]? =some (.int .i64 (R.getD j 0)):=by
 simp[nums,List.getD_eq_getElem?_getD,List.getElem?_eq_getElem h]
theorem mod_add_one (a b m:Nat):((a+1) % m+b) % m=(a+(b+1)) % m:=by
 rw[Nat.mod_add_mod];congr 1;omega
theorem qL_take (R:List Int) (fr sz:Nat) (hf:fr<R.length):qL R fr (sz+1)=R.getD fr 0::qL R ((fr+1) % R.length) sz:=by
 unfold qL;rw[List.range_succ_eq_map,List.map_cons,Nat.add_zero,Nat.mod_eq_of_lt hf,List.map_map];congr 1;apply List.map_congr_left;intro i _;show R.getD ((fr+(i+1)) % R.length) 0=R.getD (((fr+1) % R.length+i) % R.length) 0;rw[mod_add_one]
attribute [local irreducible] wpQuiet
set_option maxHeartbeats 1000000 in
set_option maxRecDepth 100000 in
theorem que_len (g:Nat) (A:Option Addr) (R:List Int) (fr sz mo:Nat) (w:World) (h:Qu w g A R fr sz mo):
  Calls Try.prog 166 #[.pointer (some ⟨g,0,none⟩)] w fun e w'=>e= .returned (.int .i64 sz)∧w'=w:=by
 have c2:w.cell? ⟨g,2,none⟩=some (.int .i64 sz):=(Yc h.hd 2).trans rfl;clear h;go_enter Try.func166,Try.ntmps166;go_wp2;go_ret;exact⟨rfl,rfl⟩
set_option maxHeartbeats 1000000 in
set_option maxRecDepth 100000 in
theorem take_core (g b m fr sz:Nat) (x:Int) (w:World) (c0:w.cell? ⟨g,0,none⟩=some (.slice (some ⟨b,0,none⟩) m m)) (c1:w.cell? ⟨g,1,none⟩=some (.int .i64 fr)) (c2:w.cell? ⟨g,2,none⟩=some (.int .i64 (sz+1:Nat)))
  (c3:w.cell? ⟨b,fr,none⟩=some (.int .i64 x)) (f1:w.frozen? ⟨g,1,none⟩=false) (f2:w.frozen? ⟨g,2,none⟩=false) (hne:g≠b) (p0:(0:Int)≤(fr:Int)) (p1:(fr:Int)<(m:Int)) (p2:(m:Int)≤200) (p4:(sz:Int)+1≤50) (p5:(0:Int)≤(sz:Int)):
  Calls Try.prog 167 #[.pointer (some ⟨g,0,none⟩)] w fun e w'=>e= .returned (.tuple #[.int .i64 x, .int .i64 0])∧w'=((w.setCell ⟨g,1,none⟩ (.int .i64 (((fr:Int)+1) % (m:Int)))).setCell ⟨g,2,none⟩ (.int .i64 sz)).drew.drew:=by
 have hu:=Try.underlying193;have p3:(0:Int)<(m:Int):=by omega
 have e1:((sz:Int)+1 == 0)=false:=beq_eq_false_iff_ne.2 (by omega);go_enter Try.func167,Try.ntmps167;go_wp2_with fail;go_region;go_wp2_with fail;go_region;go_wp2_with fail;go_ret2;exact⟨rfl,rfl⟩
theorem que_take (g b:Nat) (R:List Int) (fr sz mo:Nat) (w:World) (h:Qu w g (some ⟨b,0,none⟩) R fr (sz+1) mo):
  Calls Try.prog 167 #[.pointer (some ⟨g,0,none⟩)] w fun e w'=>e= .returned (.tuple #[.int .i64 (R.getD fr 0), .int .i64 0])∧Qu w' g (some ⟨b,0,none⟩) R ((fr+1) % R.length) sz mo∧Ks (fun k=>k=g) w w':=by
 have hfr:fr<R.length:=by
  rcases h.frr with h1|⟨_,h1⟩
  ·exact h1
  ·have:=h.szr;rw[h1] at this;simp at this
 have hl:=h.len;have hring:w.heap[b]? =some (.cells (nums .i64 R).toArray 3 (0,0)):=by
  rcases h.ring with ⟨h1,_⟩|⟨c,h1,h2,h3⟩
  ·cases h1
  ·cases h1;exact h3
 have hm:=h.szm;have h50:=h.mo50;refine(take_core g b R.length fr sz (R.getD fr 0) w ((Yc h.hd 0).trans rfl) ((Yc h.hd 1).trans rfl) ((Yc h.hd 2).trans rfl) ((Yc hring fr).trans (nums_get R fr hfr)) (Yf h.hd 1) (Yf h.hd 2) h.ne (by omega) (by omega) (by omega) (by omega) (by omega)).mono ?_;rintro e w' ⟨rfl,rfl⟩;have he:((fr:Int)+1) % (R.length:Int)=(((fr+1) % R.length:Nat):Int):=by rw[Int.natCast_emod];rfl
 rw[he];refine⟨rfl,⟨blk_set (blk_set h.hd 1 _) 2 _, .inr ⟨b,rfl,by omega,?_⟩,by have:=h.szr;omega, .inl (Nat.mod_lt _ (by omega)),by omega,h50,hl⟩,?_⟩
 ·exact blk_far (blk_far hring (p:=⟨g,1,none⟩) (Ne.symm h.ne) _) (p:=⟨g,2,none⟩) (Ne.symm h.ne) _
 ·exact(((Ks.refl (fun k=>k=g) w).set (g:=g) (fun _=>rfl) 1 _).set (g:=g) (fun _=>rfl) 2 _).below (below_drew (below_drew (Yo _ _)))
end H
namespace H
theorem pigeonN (n:Nat): ∀ L:List Nat,L.Nodup→(∀ x,x∈L→x<n)→L.length≤n:=by
 induction n with
 |zero=>
  intro L _ h;cases L with
  |nil=>simp
  |cons x L=>exact absurd (h x List.mem_cons_self) (Nat.not_lt_zero _)
 |succ n ih=>
  intro L hn h;by_cases hm:n∈L
  ·have h1:=ih (L.erase n) (hn.erase n) (fun x hx=>by
    have h2:=(hn.mem_erase_iff).1 hx;have:=h x h2.2;have:=h2.1;omega)
   rw[List.length_erase_of_mem hm] at h1;omega
  ·have:=ih L hn (fun x hx=>by
    have h1:=h x hx;have:x≠n:=fun e=>hm (e▸hx)
    omega)
   omega
section
variable {α:Type}
structure Fd (α:Type) where
 v:Nat
 by_:α
 lv:Nat
def nodes (st:List (Fd α)):List Nat:=st.map Fd.v
def vis (to_:α→Nat) (lv:Nat) (st:List (Fd α)) (e:α):List (Fd α):=if to_ e∈nodes st then st else st ++ [⟨to_ e,e,lv+1⟩]
def proc (to_:α→Nat) (es:Nat→List α) (st:List (Fd α)) (x:Fd α):List (Fd α):=(es x.v).foldl (vis to_ x.lv) st
def bfs (to_:α→Nat) (es:Nat→List α):Nat→Nat→List (Fd α)→List (Fd α)
 |0,_,st=>st
 |n+1,i,st=>match st[i]? with
  |none=>st
  |some x=>bfs to_ es n (i+1) (proc to_ es st x)
theorem vis_pre (to_:α→Nat) (lv:Nat) (st:List (Fd α)) (e:α): ∃ r,vis to_ lv st e=st ++ r:=by
 unfold vis;split
 ·exact⟨[],(List.append_nil _).symm⟩
 ·exact⟨_,rfl⟩
theorem fold_pre (to_:α→Nat) (lv:Nat) (l:List α) (st:List (Fd α)): ∃ r,l.foldl (vis to_ lv) st=st ++ r:=by
 induction l generalizing st with
 |nil=>exact⟨[],(List.append_nil _).symm⟩
 |cons e l ih=>
  obtain⟨r,hr⟩:=vis_pre to_ lv st e;obtain⟨q,hq⟩:=ih (vis to_ lv st e);exact⟨r ++ q,by rw[List.foldl_cons,hq,hr,List.append_assoc]⟩
theorem bfs_pre (to_:α→Nat) (es:Nat→List α) (n i:Nat) (st:List (Fd α)): ∃ r,bfs to_ es n i st=st ++ r:=by
 induction n generalizing i st with
 |zero=>exact⟨[],(List.append_nil _).symm⟩
 |succ n ih=>
  unfold bfs;cases st[i]? with
  |none=>exact⟨[],(List.append_nil _).symm⟩
  |some x=>
   obtain⟨r,hr⟩:=fold_pre to_ x.lv (es x.v) st;obtain⟨q,hq⟩:=ih (i+1) (proc to_ es st x);exact⟨r ++ q,by show bfs to_ es n (i+1) (proc to_ es st x)=_;rw[hq];unfold proc;rw[hr,List.append_assoc]⟩
structure Fds (from_ to_:α→Nat) (es:Nat→List α) (s:Nat) (st:List (Fd α)):Prop where
 nodup:(nodes st).Nodup
 head: ∃ x r,st=x::r∧x.v=s∧x.lv=0
 by_ok: ∀ (j:Nat) (x:Fd α),st[j+1]? =some x→to_ x.by_=x.v∧ ∃ (k:Nat) (y:Fd α),k≤j∧st[k]? =some y∧x.by_∈es y.v∧x.lv=y.lv+1
 up: ∀ (j:Nat) (x y:Fd α),st[j]? =some x→st[j+1]? =some y→x.lv≤y.lv
theorem mem_nodes {st:List (Fd α)} {v:Nat} :v∈nodes st↔ ∃ (j:Nat) (x:Fd α),st[j]? =some x∧x.v=v:=by
 unfold nodes;rw[List.mem_map];constructor
 ·rintro⟨x,hx,rfl⟩
  obtain⟨j,hj⟩:=List.getElem?_of_mem hx;exact⟨j,x,hj,rfl⟩
 ·rintro⟨j,x,hj,rfl⟩
  exact⟨x,List.mem_of_getElem? hj,rfl⟩
theorem Fds.vis {from_ to_:α→Nat} {es:Nat→List α} {s:Nat} {st:List (Fd α)} (h:Fds from_ to_ es s st) {i:Nat} {x:Fd α} (hx:st[i]? =some x) (hm: ∀ y,y∈st→y.lv≤x.lv+1) {e:α} (he:e∈es x.v):
  Fds from_ to_ es s (vis to_ x.lv st e)∧ ∀ y,y∈H.vis to_ x.lv st e→y.lv≤x.lv+1:=by
 unfold H.vis;split
 ·exact⟨h,hm⟩
 ·rename_i hn
  have hil:=(List.getElem?_eq_some_iff.1 hx).1;have hsm: ∀ (j:Nat) (y:Fd α),(st ++ [⟨to_ e,e,x.lv+1⟩])[j]? =some y→(j<st.length∧st[j]? =some y)∨(j=st.length∧y=⟨to_ e,e,x.lv+1⟩):=by
   intro j y hy;rcases Nat.lt_or_ge j st.length with hj|hj
   ·rw[List.getElem?_append_left hj] at hy;exact .inl ⟨hj,hy⟩
   ·rw[List.getElem?_append_right hj] at hy
    have hj0:j - st.length=0:=by
     have:=(List.getElem?_eq_some_iff.1 hy).1;simp at this;omega
    rw[hj0] at hy;injection hy with hy
    exact .inr ⟨by omega,hy.symm⟩
  refine⟨⟨?_,?_,?_,?_⟩,?_⟩
  ·show (nodes (st ++ [_])).Nodup
   unfold nodes;rw[List.map_append];refine List.nodup_append.2 ⟨h.nodup,by simp,?_⟩;intro a ha b hb;simp at hb;subst hb;intro e';subst e';exact hn ha
  ·obtain⟨y,r,hr,h1,h2⟩:=h.head
   exact⟨y,r ++ [_],by rw[hr];rfl,h1,h2⟩
  ·intro j y hy
   rcases hsm _ _ hy with ⟨hj,hy⟩|⟨hj,rfl⟩
   ·obtain⟨h1,k,z,hk,hz,h2,h3⟩:=h.by_ok j y hy
    exact⟨h1,k,z,hk,by rw[List.getElem?_append_left (by omega)];exact hz,h2,h3⟩
   ·exact⟨rfl,i,x,by omega,by rw[List.getElem?_append_left hil];exact hx,he,rfl⟩
  ·intro j y z hy hz
   rcases hsm _ _ hz with ⟨hj,hz⟩|⟨hj,rfl⟩
   ·rw[List.getElem?_append_left (by omega)] at hy
    exact h.up j y z hy hz
   ·rw[List.getElem?_append_left (by omega)] at hy
    exact hm y (List.mem_of_getElem? hy)
  ·intro y hy
   rcases List.mem_append.1 hy with hy|hy
   ·exact hm y hy
   ·rw[List.mem_singleton.1 hy]
    exact Nat.le_refl _
theorem Fds.fold {from_ to_:α→Nat} {es:Nat→List α} {s:Nat} {x:Fd α} (l:List α): ∀ {st:List (Fd α)} (h:Fds from_ to_ es s st) {i:Nat} (hx:st[i]? =some x) (hm: ∀ y,y∈st→y.lv≤x.lv+1) (he: ∀ e,e∈l→e∈es x.v),
  Fds from_ to_ es s (l.foldl (H.vis to_ x.lv) st)∧ ∀ y,y∈l.foldl (H.vis to_ x.lv) st→y.lv≤x.lv+1:=by
 induction l with
 |nil=>intro st h i hx hm he;exact⟨h,hm⟩
 |cons e l ih=>
  intro st h i hx hm he;obtain⟨h1,h2⟩:=h.vis hx hm (he e List.mem_cons_self);obtain⟨r,hr⟩:=vis_pre to_ x.lv st e;have hx':(H.vis to_ x.lv st e)[i]? =some x:=by rw[hr,List.getElem?_append_left (List.getElem?_eq_some_iff.1 hx).1];exact hx
  exact ih h1 hx' h2 (fun e he'=>he e (List.mem_cons_of_mem _ he'))
theorem fold_mem (to_:α→Nat) (lv:Nat) (l:List α) (st:List (Fd α)) {e:α} (he:e∈l):to_ e∈nodes (l.foldl (vis to_ lv) st):=by
 induction l generalizing st with
 |nil=>cases he
 |cons f l ih=>
  rcases List.mem_cons.1 he with rfl|he
  ·obtain⟨r,hr⟩:=fold_pre to_ lv l (vis to_ lv st e)
   rw[List.foldl_cons,hr];have:to_ e∈nodes (vis to_ lv st e):=by
    unfold vis;split
    ·assumption
    ·unfold nodes;rw[List.map_append];exact List.mem_append_right _ (by simp)
   unfold nodes at this ⊢;rw[List.map_append];exact List.mem_append_left _ this
  ·exact ih _ he
structure Upto (from_ to_:α→Nat) (es:Nat→List α) (s i:Nat) (st:List (Fd α)):Prop where
 fds:Fds from_ to_ es s st
 most: ∀ (x:Fd α),st[i]? =some x→ ∀ y,y∈st→y.lv≤x.lv+1
 seen: ∀ (j:Nat) (x:Fd α),j<i→st[j]? =some x→ ∀ e,e∈es x.v→ ∃ (k:Nat) (y:Fd α),st[k]? =some y∧y.v=to_ e∧y.lv≤x.lv+1
theorem upto_start (from_ to_:α→Nat) (es:Nat→List α) (s:Nat) (e0:α):Upto from_ to_ es s 0 [⟨s,e0,0⟩]:=by
 refine⟨⟨by simp[nodes],⟨_,[],rfl,rfl,rfl⟩,?_,?_⟩,?_,?_⟩
 ·intro j x h;simp at h
 ·intro j x y h1 h2;simp at h2
 ·intro x h y hy
  rw[List.mem_singleton.1 hy];exact Nat.zero_le _
 ·intro j x h;exact absurd h (Nat.not_lt_zero _)
theorem Upto.next {from_ to_:α→Nat} {es:Nat→List α} {s i:Nat} {st:List (Fd α)} (h:Upto from_ to_ es s i st) {x:Fd α} (hx:st[i]? =some x):Upto from_ to_ es s (i+1) (proc to_ es st x):=by
 obtain⟨h1,h2⟩:=Fds.fold (es x.v) h.fds hx (h.most x hx) (fun e he=>he);obtain⟨r,hr⟩:=fold_pre to_ x.lv (es x.v) st;have hil:=(List.getElem?_eq_some_iff.1 hx).1;have hx':(proc to_ es st x)[i]? =some x:=by unfold proc;rw[hr,List.getElem?_append_left hil];exact hx
 refine⟨h1,?_,?_⟩
 ·intro y hy z hz
  have h3:=h1.up i x y hx' hy;have h4:=h2 z hz;omega
 ·intro j y hj hy e he
  rcases Nat.lt_or_ge j i with hji|hji
  ·unfold proc at hy ⊢
   rw[hr,List.getElem?_append_left (by omega)] at hy;obtain⟨k,z,hk,hv,hl⟩:=h.seen j y hji hy e he;exact⟨k,z,by rw[hr,List.getElem?_append_left (List.getElem?_eq_some_iff.1 hk).1];exact hk,hv,hl⟩
  ·have hji':j=i:=by omega
   subst hji';rw[hx'] at hy;injection hy with hy
   subst hy;obtain⟨k,z,hk,hv⟩:=mem_nodes.1 (fold_mem to_ x.lv (es x.v) st he);exact⟨k,z,hk,hv,h2 z (List.mem_of_getElem? hk)⟩
theorem bfs_done {from_ to_:α→Nat} {es:Nat→List α} {s N:Nat} (hN: ∀ (u:Nat) (e:α),e∈es u→to_ e<N) (hs:s<N) (n:Nat): ∀ (i:Nat) (st:List (Fd α)),Upto from_ to_ es s i st→N≤i+n→Upto from_ to_ es s (bfs to_ es n i st).length (bfs to_ es n i st):=by
 have hlen: ∀ (st:List (Fd α)),Fds from_ to_ es s st→st.length≤N:=by
  intro st h;have:(nodes st).length≤N:=by
   refine pigeonN N _ h.nodup ?_;intro v hv;obtain⟨j,x,hj,rfl⟩:=mem_nodes.1 hv;cases j with
   |zero=>
    obtain⟨y,r,hr,h1,_⟩:=h.head;rw[hr] at hj;injection hj with hj
    rw[← hj,h1];exact hs
   |succ j=>
    obtain⟨h1,k,y,_,_,h2,_⟩:=h.by_ok j x hj;rw[← h1];exact hN _ _ h2
  unfold nodes at this;rw[List.length_map] at this;exact this
 induction n with
 |zero=>
  intro i st h hi;have hl:=hlen st h.fds;show Upto from_ to_ es s st.length st;exact⟨h.fds,fun x hx=>by have:=(List.getElem?_eq_some_iff.1 hx).1;omega,fun j x hj hx=>h.seen j x (by omega) hx⟩
 |succ n ih=>
  intro i st h hi;unfold bfs;cases hx:st[i]? with
  |none=>
   have hl:=List.getElem?_eq_none_iff.1 hx;show Upto from_ to_ es s st.length st;exact⟨h.fds,fun x hx=>by have:=(List.getElem?_eq_some_iff.1 hx).1;omega,fun j x hj hx=>h.seen j x (by omega) hx⟩
  |some x=>exact ih (i+1) _ (h.next hx) (by omega)
end
end H
namespace H
section
variable {α:Type}
def fnd (st:List (Fd α)) (v:Nat):Option (Fd α):=st.find? fun x=>x.v == v
theorem fnd_some {st:List (Fd α)} {v:Nat} {x:Fd α} (h:fnd st v=some x):x∈st∧x.v=v:=by
 have h1:=List.find?_some h;exact⟨List.mem_of_find?_eq_some h,by simpa using h1⟩
theorem fnd_none {st:List (Fd α)} {v:Nat} :fnd st v=none↔v ∉ nodes st:=by
 unfold fnd nodes;rw[List.find?_eq_none];constructor
 ·intro h hm
  obtain⟨x,hx,rfl⟩:=List.mem_map.1 hm;exact h x hx (by simp)
 ·intro h x hx e
  exact h (List.mem_map.2 ⟨x,hx,by simpa using e⟩)
theorem nodup_inj {st:List (Fd α)} (h:(nodes st).Nodup) {x y:Fd α} (hx:x∈st) (hy:y∈st) (e:x.v=y.v):x=y:=by
 induction st with
 |nil=>cases hx
 |cons z st ih=>
  have h':z.v ∉ nodes st∧(nodes st).Nodup:=List.nodup_cons.1 h;rcases List.mem_cons.1 hx with h1|h1<;>rcases List.mem_cons.1 hy with h2|h2
  ·rw[h1,h2]
  ·exact(h'.1 (List.mem_map.2 ⟨y,h2,by rw[← e,h1]⟩)).elim
  ·exact(h'.1 (List.mem_map.2 ⟨x,h1,by rw[e,h2]⟩)).elim
  ·exact ih h'.2 h1 h2
theorem fnd_of {st:List (Fd α)} (h:(nodes st).Nodup) {x:Fd α} (hx:x∈st):fnd st x.v=some x:=by
 cases hf:fnd st x.v with
 |none=>exact absurd (List.mem_map.2 ⟨x,hx,rfl⟩) (fnd_none.1 hf)
 |some y=>
  obtain⟨h1,h2⟩:=fnd_some hf;rw[nodup_inj h h1 hx h2]
theorem fnd_app {st r:List (Fd α)} {v:Nat} (h:v∈nodes st):fnd (st ++ r) v=fnd st v:=by
 unfold fnd;rw[List.find?_append];cases hf:fnd st v with
 |none=>exact absurd h (fnd_none.1 hf)
 |some x=>unfold fnd at hf;rw[hf];rfl
theorem nodes_app (st r:List (Fd α)):nodes (st ++ r)=nodes st ++ nodes r:=List.map_append
def backL (fr:α→Nat) (st:List (Fd α)) (s:Nat):Nat→Nat→List α
 |0,_=>[]
 |k+1,v=>if v=s then [] else match fnd st v with
  |none=>[]
  |some x=>x.by_::backL fr st s k (fr x.by_)
def wayL (fr:α→Nat) (st:List (Fd α)) (s v:Nat):List α:=(backL fr st s st.length v).reverse
def Leads (to_:α→Nat) (es:Nat→List α):Nat→List α→Nat→Prop
 |u,[],t=>u=t
 |u,e::L,t=>e∈es u∧Leads to_ es (to_ e) L t
theorem Leads.snoc {to_:α→Nat} {es:Nat→List α} {L:List α} {e:α} : ∀ {u v:Nat},Leads to_ es u L v→e∈es v→Leads to_ es u (L ++ [e]) (to_ e):=by
 induction L with
 |nil=>intro u v h he;cases h;exact⟨he,rfl⟩
 |cons f L ih=>intro u v h he;exact⟨h.1,ih h.2 he⟩
theorem Fds.mem_lv {fr to_:α→Nat} {es:Nat→List α} {s:Nat} {st:List (Fd α)} (h:Fds fr to_ es s st) {x:Fd α} (hx:x∈st):
  (x.v=s∧x.lv=0)∨(x.v≠s∧to_ x.by_=x.v∧ ∃ y,y∈st∧x.by_∈es y.v∧x.lv=y.lv+1):=by
 obtain⟨j,hj⟩:=List.getElem?_of_mem hx;obtain⟨z,r,hr,h1,h2⟩:=h.head;have hz:z∈st:=by rw[hr];exact List.mem_cons_self
 cases j with
 |zero=>
  rw[hr] at hj;injection hj with hj
  rw[← hj];exact .inl ⟨h1,h2⟩
 |succ j=>
  obtain⟨h3,k,y,_,hy,h4,h5⟩:=h.by_ok j x hj;refine .inr ⟨?_,h3,y,List.mem_of_getElem? hy,h4,h5⟩;intro e;have:=nodup_inj h.nodup hx hz (by rw[e,h1]);rw[this,h2] at h5;omega
theorem lv_lt {fr to_:α→Nat} {es:Nat→List α} {s:Nat} {st:List (Fd α)} (h:Fds fr to_ es s st) {x:Fd α} (hx:x∈st):x.lv<st.length:=by
 obtain⟨z,r,hr,h1,h2⟩:=h.head;have aux: ∀ (j:Nat) (y:Fd α),st[j]? =some y→y.lv≤j:=by
  intro j
  induction j using Nat.strongRecOn with
  |_ j ih=>
   intro y hy;cases j with
   |zero=>
    rw[hr] at hy;injection hy with hy
    rw[← hy,h2];exact Nat.le_refl _
   |succ j=>
    obtain⟨_,k,w,hk,hw,_,h5⟩:=h.by_ok j y hy;have:=ih k (by omega) w hw;omega
 obtain⟨j,hj⟩:=List.getElem?_of_mem hx;have:=aux j x hj;have:=(List.getElem?_eq_some_iff.1 hj).1;omega
theorem backL_spec {fr to_:α→Nat} {es:Nat→List α} {s:Nat} {st:List (Fd α)} (h:Fds fr to_ es s st) (hes: ∀ u e,e∈es u→fr e=u) (k:Nat): ∀ {x:Fd α},x∈st→x.lv≤k→
  (backL fr st s k x.v).length=x.lv∧Leads to_ es s (backL fr st s k x.v).reverse x.v:=by
 induction k with
 |zero=>
  intro x hx hk;rcases h.mem_lv hx with ⟨h1,h2⟩|⟨_,_,y,_,_,h5⟩
  ·exact⟨by rw[h2];rfl,h1.symm⟩
  ·omega
 |succ k ih=>
  intro x hx hk;unfold backL;rcases h.mem_lv hx with ⟨h1,h2⟩|⟨h1,h3,y,hy,h4,h5⟩
  ·rw[Yx h1,h2]
   exact⟨rfl,h1.symm⟩
  ·rw[Yy h1,fnd_of h.nodup hx]
   show (_::_).length=_∧Leads to_ es s (_::_).reverse _;rw[hes _ _ h4];obtain⟨i1,i2⟩:=ih hy (by omega);refine⟨by rw[List.length_cons,i1,h5],?_⟩;rw[List.reverse_cons, ← h3];exact i2.snoc h4
theorem backL_lv {fr to_:α→Nat} {es:Nat→List α} {s:Nat} {st:List (Fd α)} (h:Fds fr to_ es s st) (hes: ∀ u e,e∈es u→fr e=u) (k:Nat): ∀ {x:Fd α},x∈st→ ∀ e,e∈backL fr st s k x.v→
  ∃ y z,y∈st∧z∈st∧y.v=to_ e∧z.v=fr e∧y.lv=z.lv+1∧e∈es z.v:=by
 induction k with
 |zero=>intro x hx e he;cases he
 |succ k ih=>
  intro x hx e he;unfold backL at he;rcases h.mem_lv hx with ⟨h1,h2⟩|⟨h1,h3,y,hy,h4,h5⟩
  ·rw[Yx h1] at he;cases he
  ·rw[Yy h1,fnd_of h.nodup hx] at he
   rcases List.mem_cons.1 he with rfl|he
   ·exact⟨x,y,hx,hy,h3.symm,(hes _ _ h4).symm,h5,h4⟩
   ·rw[hes _ _ h4] at he
    exact ih hy e he
theorem backL_more {fr to_:α→Nat} {es:Nat→List α} {s:Nat} {st:List (Fd α)} (h:Fds fr to_ es s st) (hes: ∀ u e,e∈es u→fr e=u) (r:List (Fd α)) (k:Nat): ∀ {k':Nat} {x:Fd α},x∈st→x.lv≤k→x.lv≤k'→
  backL fr (st ++ r) s k' x.v=backL fr st s k x.v:=by
 induction k with
 |zero=>
  intro k' x hx hk hk';rcases h.mem_lv hx with ⟨h1,h2⟩|⟨_,_,y,_,_,h5⟩
  ·cases k' with
   |zero=>rfl
   |succ k'=>unfold backL;rw[Yx h1]
  ·omega
 |succ k ih=>
  intro k' x hx hk hk';rcases h.mem_lv hx with ⟨h1,h2⟩|⟨h1,h3,y,hy,h4,h5⟩
  ·cases k' with
   |zero=>unfold backL;rw[Yx h1]
   |succ k'=>unfold backL;rw[Yx h1,Yx h1]
  ·cases k' with
   |zero=>omega
   |succ k'=>
    unfold backL;rw[Yy h1,Yy h1,fnd_app (List.mem_map.2 ⟨x,hx,rfl⟩),fnd_of h.nodup hx];show _::_=_::_;rw[hes _ _ h4,ih hy (by omega) (by omega)]
def dOf (n:Nat) (st:List (Fd α)):List Int:=(List.range n).map fun v=>match fnd st v with
 |some x=>(x.lv:Int)
 |none=> -1
def bOf (z:α) (n:Nat) (st:List (Fd α)):List α:=(List.range n).map fun v=>match fnd st v with
 |some x=>x.by_
 |none=>z
theorem dOf_len (n:Nat) (st:List (Fd α)):(dOf n st).length=n:=by simp[dOf]
theorem bOf_len (z:α) (n:Nat) (st:List (Fd α)):(bOf z n st).length=n:=by simp[bOf]
theorem dOf_get {n v:Nat} (st:List (Fd α)) (d:Int) (hv:v<n):(dOf n st).getD v d=match fnd st v with
  |some x=>(x.lv:Int)
  |none=> -1:=by
 unfold dOf;rw[List.getD_eq_getElem?_getD,List.getElem?_map,List.getElem?_range hv];rfl
theorem dOf_neg {n v:Nat} (st:List (Fd α)) (d:Int) (hv:v<n):(dOf n st).getD v d<0↔v ∉ nodes st:=by
 rw[dOf_get st d hv, ← fnd_none];cases fnd st v with
 |none=>simp
 |some x=>simp
theorem dOf_mem {n:Nat} {st:List (Fd α)} (h:(nodes st).Nodup) {x:Fd α} (hx:x∈st) (d:Int) (hv:x.v<n):(dOf n st).getD x.v d=x.lv:=by
 rw[dOf_get st d hv,fnd_of h hx]
theorem set_map_range {β:Type} (n w:Nat) (f:Nat→β) (b:β):((List.range n).map f).set w b=(List.range n).map fun v=>if v=w then b else f v:=by
 apply List.ext_getElem?;intro i;rw[List.getElem?_set];simp only[List.length_map,List.length_range,List.getElem?_map];by_cases e:w=i
 ·subst e
  by_cases hw:w<n
  ·rw[Yx rfl,Yx hw,List.getElem?_range hw]
   simp
  ·rw[Yx rfl,Yy hw,List.getElem?_eq_none (by simp;omega)]
   rfl
 ·rw[Yy e]
  by_cases hi:i<n
  ·rw[List.getElem?_range hi]
   simp[Ne.symm e]
  ·rw[List.getElem?_eq_none (by simp;omega)]
   rfl
theorem dOf_snoc (n:Nat) {st:List (Fd α)} {x:Fd α} (h:x.v ∉ nodes st):dOf n (st ++ [x])=(dOf n st).set x.v (x.lv:Int):=by
 unfold dOf;rw[set_map_range];apply List.map_congr_left;intro v hv;by_cases e:v=x.v
 ·subst e
  rw[Yx rfl];have h1:=fnd_none.2 h;unfold fnd at h1 ⊢;rw[List.find?_append,h1];simp
 ·rw[Yy e]
  unfold fnd;rw[List.find?_append];cases hf:st.find? (fun y=>y.v == v) with
  |some y=>rfl
  |none=>simp[Ne.symm e]
theorem bOf_snoc (z:α) (n:Nat) {st:List (Fd α)} {x:Fd α} (h:x.v ∉ nodes st):bOf z n (st ++ [x])=(bOf z n st).set x.v x.by_:=by
 unfold bOf;rw[set_map_range];apply List.map_congr_left;intro v hv;by_cases e:v=x.v
 ·subst e
  rw[Yx rfl];have h1:=fnd_none.2 h;unfold fnd at h1 ⊢;rw[List.find?_append,h1];simp
 ·rw[Yy e]
  unfold fnd;rw[List.find?_append];cases hf:st.find? (fun y=>y.v == v) with
  |some y=>rfl
  |none=>simp[Ne.symm e]
theorem dOf_one (n s:Nat) (z:α):dOf n [⟨s,z,0⟩]=(List.replicate n (-1:Int)).set s 0:=by
 have h1:(List.replicate n (-1:Int))=dOf n ([]:List (Fd α)):=by
  unfold dOf;apply List.ext_getElem (by simp);intro i h1 h2;simp[fnd]
 rw[h1,show ([⟨s,z,0⟩]:List (Fd α))=[] ++ [⟨s,z,0⟩] from rfl,dOf_snoc n (by simp[nodes])];rfl
theorem bOf_one (n s:Nat) (z:α):bOf z n [⟨s,z,0⟩]=List.replicate n z:=by
 unfold bOf;apply List.ext_getElem (by simp);intro i h1 h2;simp only[List.getElem_map,List.getElem_range,List.getElem_replicate];unfold fnd;rw[List.find?_cons];cases (s == i)<;>rfl
def bfsN (to_:α→Nat) (es:Nat→List α) (z:α) (n s:Nat):List (Fd α):=bfs to_ es n 0 [⟨s,z,0⟩]
theorem bfsN_upto {fr to_:α→Nat} {es:Nat→List α} {z:α} {n s:Nat} (hN: ∀ (u:Nat) (e:α),e∈es u→to_ e<n) (hs:s<n):Upto fr to_ es s (bfsN to_ es z n s).length (bfsN to_ es z n s):=
 bfs_done hN hs n 0 _ (upto_start fr to_ es s z) (by omega)
theorem bfsN_closed {to_:α→Nat} {es:Nat→List α} {z:α} {n s:Nat} (hN: ∀ (u:Nat) (e:α),e∈es u→to_ e<n) (hs:s<n) {x:Fd α} (hx:x∈bfsN to_ es z n s) {e:α} (he:e∈es x.v):
  ∃ y,y∈bfsN to_ es z n s∧y.v=to_ e∧y.lv≤x.lv+1:=by
 obtain⟨j,hj⟩:=List.getElem?_of_mem hx;obtain⟨k,y,hk,h1,h2⟩:=(bfsN_upto (fr:=fun _=>0) (z:=z) hN hs).seen j x (List.getElem?_eq_some_iff.1 hj).1 hj e he;exact⟨y,List.mem_of_getElem? hk,h1,h2⟩
theorem fds_lt {fr to_:α→Nat} {es:Nat→List α} {n s:Nat} {st:List (Fd α)} (h:Fds fr to_ es s st) (hN: ∀ (u:Nat) (e:α),e∈es u→to_ e<n) (hs:s<n): ∀ v,v∈nodes st→v<n:=by
 intro v hv;obtain⟨x,hx,rfl⟩:=List.mem_map.1 hv;rcases h.mem_lv hx with ⟨h1,_⟩|⟨_,h3,y,_,h4,_⟩
 ·rw[h1];exact hs
 ·rw[← h3];exact hN _ _ h4
theorem fds_len {fr to_:α→Nat} {es:Nat→List α} {n s:Nat} {st:List (Fd α)} (h:Fds fr to_ es s st) (hN: ∀ (u:Nat) (e:α),e∈es u→to_ e<n) (hs:s<n):st.length≤n:=by
 have:=pigeonN n (nodes st) h.nodup (fds_lt h hN hs);unfold nodes at this
 rwa [List.length_map] at this
end
end H
namespace H
open P
def IsI (w:World) (g:Nat) (D:List Int):Prop:=w.heap[g]? =some (.cells (nums .i64 D).toArray 3 (0,0))
def stC (B:List S38):List Value:=B.flatMap fun s=>[.int .i64 s.f0, .bool s.f1]
def IsS (w:World) (g:Nat) (B:List S38):Prop:=w.heap[g]? =some (.cells (stC B).toArray 38 (0,0))
theorem stC_len (B:List S38):(stC B).length=2 * B.length:=by
 induction B with
 |nil=>rfl
 |cons s B ih=>show ([_,_] ++ stC B).length=_;rw[List.length_append,ih,List.length_cons];simp;omega
theorem stC_cons (s:S38) (B:List S38):stC (s::B)= .int .i64 s.f0:: .bool s.f1::stC B:=rfl
theorem stC_get (z:S38): ∀ (B:List S38) (u:Nat),u<B.length→(stC B)[u * 2]? =some (.int .i64 (B.getD u z).f0)∧(stC B)[u * 2+1]? =some (.bool (B.getD u z).f1)
 |[],u,h=>by simp at h
 |s::B,0,_=>⟨rfl,rfl⟩
 |s::B,u+1,h=>by
  have:=stC_get z B u (by simpa using h);rw[stC_cons,show (u+1) * 2=(u * 2+1)+1 by omega,List.getElem?_cons_succ,List.getElem?_cons_succ,List.getElem?_cons_succ,List.getElem?_cons_succ,List.getD_cons_succ];exact this
theorem stC_set: ∀ (B:List S38) (u:Nat) (s:S38),((stC B).set (u * 2) (.int .i64 s.f0)).set (u * 2+1) (.bool s.f1)=stC (B.set u s)
 |[],u,s=>rfl
 |x::B,0,s=>rfl
 |x::B,u+1,s=>by
  rw[stC_cons,show (u+1) * 2=(u * 2+1)+1 by omega,List.set_cons_succ,List.set_cons_succ,List.set_cons_succ,List.set_cons_succ,stC_set B u s];rfl
section
variable {w w1:World} {g:Nat} {D:List Int} {B:List S38}
theorem IsI.lt (h:IsI w g D):g<w.heap.size:=blk_lt h
theorem IsS.lt (h:IsS w g B):g<w.heap.size:=blk_lt h
theorem IsI.same (h:IsI w g D) (e:w1.heap[g]? =w.heap[g]?):IsI w1 g D:=e.trans h
theorem IsS.same (h:IsS w g B) (e:w1.heap[g]? =w.heap[g]?):IsS w1 g B:=e.trans h
theorem IsI.below (h:IsI w g D) (hb:Below w.heap.size w w1):IsI w1 g D:=h.same (hb.block g h.lt)
theorem IsS.below (h:IsS w g B) (hb:Below w.heap.size w w1):IsS w1 g B:=h.same (hb.block g h.lt)
theorem IsI.kept {S:Nat→Prop} (h:IsI w g D) (hk:Ks S w w1) (hs: ¬ S g):IsI w1 g D:=hk.blk h hs
theorem IsS.kept {S:Nat→Prop} (h:IsS w g B) (hk:Ks S w w1) (hs: ¬ S g):IsS w1 g B:=hk.blk h hs
theorem IsI.far (h:IsI w g D) {p:Addr} (hp:g≠p.block) (u:Value):IsI (w.setCell p u) g D:=blk_far h hp u
theorem IsS.far (h:IsS w g B) {p:Addr} (hp:g≠p.block) (u:Value):IsS (w.setCell p u) g B:=blk_far h hp u
theorem IsI.cell (h:IsI w g D) {j:Nat} (hj:j<D.length):w.cell? ⟨g,j,none⟩=some (.int .i64 (D.getD j 0)):=(Yc h j).trans (nums_get D j hj)
theorem IsI.free (h:IsI w g D) (j:Nat):w.frozen? ⟨g,j,none⟩=false:=Yf h j
theorem IsS.free (h:IsS w g B) (j:Nat):w.frozen? ⟨g,j,none⟩=false:=Yf h j
theorem IsS.cell (h:IsS w g B) (z:S38) {j:Nat} (hj:j<B.length):w.cell? ⟨g,j * 2,none⟩=some (.int .i64 (B.getD j z).f0)∧w.cell? ⟨g,j * 2+1,none⟩=some (.bool (B.getD j z).f1):=by
 obtain⟨h1,h2⟩:=stC_get z B j hj;exact⟨(Yc h _).trans (by simpa using h1),(Yc h _).trans (by simpa using h2)⟩
theorem IsI.put (h:IsI w g D) (j:Nat) (x:Int):IsI (w.setCell ⟨g,j,none⟩ (.int .i64 x)) g (D.set j x):=by
 refine(blk_set h j _).trans ?_;simp[nums,List.map_set]
theorem IsS.put (h:IsS w g B) (j:Nat) (s:S38):IsS ((w.setCell ⟨g,j * 2,none⟩ (.int .i64 s.f0)).setCell ⟨g,j * 2+1,none⟩ (.bool s.f1)) g (B.set j s):=by
 refine(blk_set (blk_set h (j * 2) _) (j * 2+1) _).trans ?_;rw[← stC_set];simp
theorem IsI.R (h:IsI w g D) (hl:D.length≤9223372036854775807) {base:Nat} (hb:base≤g) {ok:Nat→Prop} (hok:ok g):Kd.R (Kd.int .i64) 3 w base ok (.slice (some ⟨g,0,none⟩) D.length D.length) D:=by
 refine Kd.R_of_own (enc:=Value.int .i64) ?_ (fun k hk=> ?_)
 ·refine⟨by simp[encs], .inr ⟨g,D.length,_,rfl,hb,h,Nat.le_refl _,by simp only[maxLen];omega,by simp[nums],?_⟩⟩
  simp only[nums,encs,Nat.mul_one];exact List.take_of_length_le (by simp)
 ·have:g=k:=by simpa [Value.ownBlock] using hk
  subst this;exact hok
theorem IsS.R (h:IsS w g B) (hl:B.length≤9223372036854775807) {base:Nat} (hb:base≤g) {ok:Nat→Prop} (hok:ok g):Kd.R k38 38 w base ok (.slice (some ⟨g,0,none⟩) B.length B.length) B:=by
 refine⟨fun k hk=> ?_,stC B,⟨?_, .inr ⟨g,B.length,_,rfl,hb,h,Nat.le_refl _,by simp only[maxLen];omega,?_,?_⟩⟩,?_,fun j p hj=> ?_⟩
 ·have:g=k:=by simpa [Value.ownBlock] using hk
  subst this;exact hok
 ·rw[stC_len];show 2 * B.length=B.length * 2;omega
 ·show (stC B).toArray.size=B.length * 2
  rw[List.size_toArray,stC_len];omega
 ·show (stC B).toArray.toList.take (B.length * 2)=stC B
  rw[List.take_of_length_le (by simp[stC_len];omega)]
 ·rw[stC_len];show 2 * B.length=B.length * 2;omega
 ·obtain⟨hlt,hp⟩:=List.getElem?_eq_some_iff.1 hj
  obtain⟨h1,h2⟩:=stC_get p B j hlt;have hg:B.getD j p=p:=by rw[List.getD_eq_getElem?_getD,hj];rfl
  rw[hg] at h1 h2;have e:((stC B).drop (j * 2)).take 2=[.int .i64 p.f0, .bool p.f1]:=by
   apply List.ext_getElem?;intro m;rw[List.getElem?_take,List.getElem?_drop]
   match m with
   |0=>rw[Yx (by omega),Nat.add_zero,h1];rfl
   |1=>rw[Yx (by omega),h2];rfl
   |m+2=>rw[Yy (by omega)];rfl
  show Kd.M k38 w base _ p (((stC B).drop (j * 2)).take 2);rw[e];exact k38_mkM _ _ _ p
end
end H
namespace P
attribute [local go_sem] max2_int min2_int max_two min_two max_three min_three max_four min_four
def ebbtideref07_Steps.l0:Nat→List Int→List (S38)→Int→Int→Bool→List (S74)→Option ((List (S38)))
 |0,_,_,_,_,_,_=>none
 |k+1,x1,x5,x6,x102000,x102001,x102002=>if x6<(x1.length:Int) then(if 0≤x6 then(if x6<(x102002.length:Int) then(if ((rd_T74 x102002 x6).f2)>(rd x1 x6) then(if x5.length<8796093022208 then((some (x5 ++ [(⟨x6,false⟩:S38)]:List (S38))).bind fun y104=>(if (rd x1 x6)>0 then(if y104.length<8796093022208 then(ebbtideref07_Steps.l0 k x1 (y104 ++ [(⟨x6,true⟩:S38)]) (wrap64 (x6+1)) x102000 x102001 x102002) else(none)) else(ebbtideref07_Steps.l0 k x1 y104 (wrap64 (x6+1)) x102000 x102001 x102002))) else(none)) else(if (rd x1 x6)>0 then(if x5.length<8796093022208 then(ebbtideref07_Steps.l0 k x1 (x5 ++ [(⟨x6,true⟩:S38)]) (wrap64 (x6+1)) x102000 x102001 x102002) else(none)) else(ebbtideref07_Steps.l0 k x1 x5 (wrap64 (x6+1)) x102000 x102001 x102002))) else(none)) else(none)) else(some x5)
def ebbtideref07_Steps.f (k:Nat) (Zc:Int) (Zb:Bool) (Za:List (S74)) (l1:List Int):Option ((List (S38))):=ebbtideref07_Steps.l0 k l1 ([]:List (S38)) 0 Zc Zb Za
set_option maxHeartbeats 8000000 in
set_option maxRecDepth 100000 in
theorem ebbtideref07_Steps.calls (k:Nat) (Zc:Int) (Zb:Bool) (Ze:Option Addr) (Zd:Nat) (Za:List (S74)) (A1:Option Addr) (c1:Nat) (l1:List Int) (r:List (S38)) (w:World) (Zr:Kd.C k74 w Ze Za.length Za) (Zs:Za.length≤Zd) (hr1:Kd.C (Kd.int .i64) w A1 l1.length l1) (hc1:l1.length≤c1) (h:ebbtideref07_Steps.f k Zc Zb Za l1=some r):
  Calls Try.prog 43 #[.agg #[.int .i64 Zc, .bool Zb, .slice Ze Za.length Zd], .slice A1 l1.length c1] w fun e w'=> ∃ v0_:Value,e= .returned (v0_)∧Kd.R k38 38 w' w.heap.size (fun _=>True) v0_ r∧Below w.heap.size w w':=by
 have hu24:=Try.underlying24;have hu38:=Try.underlying38;have Zl:=Ya Zr;have Zv:=Ya Zs;clear Zr Zs;have HR1:=Ya hr1;have HC1:=Ya hc1;clear hr1 hc1;have HB:=Ya (Yo w.heap.size w);have H:(ebbtideref07_Steps.l0 k l1 ([]:List (S38)) 0 Zc Zb Za)=some r:=h;clear h;have H':=Ya H;clear H;go_enter Try.func43,Try.ntmps43;go_wp2_with (first|((with_reducible refine gate_dst (N:=2) rfl ?_);refine Yz ?hg (N:=2) ?hd (cs:= #[.int .i64 Zc, .bool Zb, .slice Ze Za.length Zd]) (t:=24) ?hr ?_;(case hd=>rfl);(case hg=>rfl);(case hr=>first|(go_simp;done)|(go_simp;rfl));intro Wz hg w3 Zf hb;have n0_:=Ya (Yk (by repeat(first|(with_reducible first|exact HB.out|apply Ye|apply Yd|apply Yg)|exact HB.out)) hb);have n1_:=Ya (Zf);have n2_:=Ya ((by rw[hg];exact(Yi (by repeat(first|(with_reducible first|exact HB.out|apply Ye|apply Yd|apply Yg)|exact HB.out))):w.heap.size≤Wz));have n3_:=Ya ((by rw[hg];exact(Yi (by repeat(first|(with_reducible first|exact HB.out|apply Ye|apply Yd|apply Yg)|exact HB.out))):w.heap.size≤Wz));clear HB;have HB:=n0_;have Xb:=n1_;have GW101:=n2_;have Vc:=n3_;clear n0_ n1_ n2_ n3_;clear hb Zf hg));repeat(go_quiet (first|((with_reducible refine gate_dst (N:=2) rfl ?_);refine Yz ?hg (N:=2) ?hd (cs:= #[.int .i64 Zc, .bool Zb, .slice Ze Za.length Zd]) (t:=24) ?hr ?_;(case hd=>rfl);(case hg=>rfl);(case hr=>first|(go_simp;done)|(go_simp;rfl));intro Wz hg w3 Zf hb;have n0_:=Ya (Yk (by repeat(first|(with_reducible first|exact HB.out|apply Ye|apply Yd|apply Yg)|exact HB.out)) hb);have n1_:=Ya (Zf);have n2_:=Ya ((by rw[hg];exact(Yi (by repeat(first|(with_reducible first|exact HB.out|apply Ye|apply Yd|apply Yg)|exact HB.out))):w.heap.size≤Wz));have n3_:=Ya ((by rw[hg];exact(Yi (by repeat(first|(with_reducible first|exact HB.out|apply Ye|apply Yd|apply Yg)|exact HB.out))):w.heap.size≤Wz));clear HB;have HB:=n0_;have Xb:=n1_;have GW101:=n2_;have Vc:=n3_;clear n0_ n1_ n2_ n3_;clear hb Zf hg));try go_wp2_with (first|((with_reducible refine gate_dst (N:=2) rfl ?_);refine Yz ?hg (N:=2) ?hd (cs:= #[.int .i64 Zc, .bool Zb, .slice Ze Za.length Zd]) (t:=24) ?hr ?_;(case hd=>rfl);(case hg=>rfl);(case hr=>first|(go_simp;done)|(go_simp;rfl));intro Wz hg w3 Zf hb;have n0_:=Ya (Yk (by repeat(first|(with_reducible first|exact HB.out|apply Ye|apply Yd|apply Yg)|exact HB.out)) hb);have n1_:=Ya (Zf);have n2_:=Ya ((by rw[hg];exact(Yi (by repeat(first|(with_reducible first|exact HB.out|apply Ye|apply Yd|apply Yg)|exact HB.out))):w.heap.size≤Wz));have n3_:=Ya ((by rw[hg];exact(Yi (by repeat(first|(with_reducible first|exact HB.out|apply Ye|apply Yd|apply Yg)|exact HB.out))):w.heap.size≤Wz));clear HB;have HB:=n0_;have Xb:=n1_;have GW101:=n2_;have Vc:=n3_;clear n0_ n1_ n2_ n3_;clear hb Zf hg)))
 go_loopg [5,6] k (fun kq v5 v6 w'=> ∃ (Zt:List (S38)) (Zk:Int),v6= .int .i64 Zk∧Aside0 (ebbtideref07_Steps.l0 kq l1 Zt Zk Zc Zb Za=some r)∧Aside0 (kq≤k)∧Aside0 (Kd.R k38 38 w' w.heap.size (fun _=>True) v5 Zt)∧Aside0 (w'.heap[Wz]? =some (.cells #[.int .i64 Zc, .bool Zb,(.slice Ze Za.length Zd)] 24 (0,0)))∧Aside0 (Below w.heap.size w w'))
 case atStart=>exact⟨(([]:List (S38))),(0),(by first|rfl|(simp;done)|(simp[*];done)),H',⟨Nat.le_refl _⟩,⟨by first|exact Kd.R_nil _ _ _ _ _|exact Kd.N_nil _ _ _ _ _|exact Kd.V_nil _ _ _ _ _|exact Kd.Q_nil _ _ _ _ _|exact Kd.S_nil _ _ _ _ _⟩,⟨by(with_reducible repeat(first|refine Yl ?_ _|refine Ym ?_|refine Yj ?_ _));exact Xb.out⟩,⟨by repeat(first|(with_reducible first|exact HB.out|apply Ye|apply Yd|apply Yg|refine Yh ?_ Vc.out)|exact HB.out)⟩⟩
 case round=>
  clear H';try clear c1
  try clear p2
  obtain⟨Zt,Zk,rfl,HA,HK1,HO_5,Xb,HB⟩:=hrel;cases gk with
  |zero=>exact absurd HA.out (by simp[ebbtideref07_Steps.l0])
  |succ k1=>
   have H:=HA.out;clear HA;simp only[ebbtideref07_Steps.l0] at H;by_cases c4:Zk<(l1.length:Int)
   rotate_left
   ·rw[Yy c4] at H
    have c4b0:decide (Zk<(l1.length:Int))=false:=Yw c4;clear c4;obtain rfl:=Option.some.inj H;go_wp2;repeat(go_quiet (fail);try go_wp2)
    go_ret;exact⟨_,by first|rfl|(simp[errW_none,errW_some]<;>rfl)|(simp[*,errW_none,errW_some]<;>rfl),by(with_reducible repeat(first|apply Yr|apply Yq|apply Yp));exact HO_5.out,by repeat(first|(with_reducible first|exact HB.out|apply Ye|apply Yd|apply Yg|refine Yh ?_ Vc.out)|exact HB.out)⟩
   rw[Yx c4] at H;have c4b0:decide (Zk<(l1.length:Int))=true:=Yv c4;clear c4;by_cases c5:0≤Zk
   rotate_left
   ·rw[Yy c5] at H
    exact absurd H (by simp)
   rw[Yx c5] at H;have c5b0:decide (0≤Zk)=true:=Yv c5;clear c5;by_cases c6:Zk<(Za.length:Int)
   rotate_left
   ·rw[Yy c6] at H
    exact absurd H (by simp)
   rw[Yx c6] at H;have c6b0:decide (Zk<(Za.length:Int))=true:=Yv c6;clear c6;by_cases c7:((rd_T74 Za Zk).f2)>(rd l1 Zk)
   ·rw[Yx c7] at H
    have c7b0:decide ((rd l1 Zk)<((rd_T74 Za Zk).f2))=true:=Yv c7;clear c7;by_cases c8:Zt.length<8796093022208
    rotate_left
    ·rw[Yy c8] at H
     exact absurd H (by simp)
    rw[Yx c8] at H;have LMc8:=Ya c8;clear c8;obtain⟨y104,hy104⟩: ∃ y_:List (S38),y_=(Zt ++ [(⟨Zk,false⟩:S38)]):=⟨_,rfl⟩;replace H:(if (rd l1 Zk)>0 then(if y104.length<8796093022208 then(ebbtideref07_Steps.l0 k1 l1 (y104 ++ [(⟨Zk,true⟩:S38)]) (wrap64 (Zk+1)) Zc Zb Za) else(none)) else(ebbtideref07_Steps.l0 k1 l1 y104 (wrap64 (Zk+1)) Zc Zb Za))=some r:=by first|(rw[hy104];with_reducible exact H)|(have H2_:=(Option.bind_some _ _).symm.trans H;rw[hy104];with_reducible exact H2_)|(have H2_:=(Option.bind_some _ _).symm.trans H;with_reducible exact H2_)|with_reducible exact H|(rw[hy104];exact H)|exact H
    have Ny104:=Ya hy104;clear hy104;by_cases c9:(rd l1 Zk)>0
    rotate_left
    ·rw[Yy c9] at H
     have c9b0:decide (0<(rd l1 Zk))=false:=Yw c9;clear c9;have H':=Ya H;clear H;have Ug:wr.cell? ⟨Wz,0,none⟩=some (.int .i64 Zc):=(Yc Xb.out 0).trans rfl;have Uh:wr.cell? ⟨Wz,1,none⟩=some (.bool Zb):=(Yc Xb.out 1).trans rfl;have Jz:wr.cell? ⟨Wz,2,none⟩=some (.slice Ze Za.length Zd):=(Yc Xb.out 2).trans rfl;have Ui:=Yf Xb.out 0;have Uj:=Yf Xb.out 1;have hfz14_2:=Yf Xb.out 2;have p102:0≤(Zk:Int):=Yu (by first|(with_reducible assumption)|assumption);have q102:Zk<(Za.length:Int):=Yu (by first|(with_reducible assumption)|assumption);obtain⟨ad102,e102,Uo,Up,Uq,Ur⟩:=at_T74 Zl.out Zk p102 q102;cases e102;replace Uo:=(HB.out.cell (Yb w _ Uo)).trans Uo;replace Up:=(HB.out.cell (Yb w _ Up)).trans Up;replace Uq:=(HB.out.cell (Yb w _ Uq)).trans Uq;replace Ur:=(HB.out.cell (Yb w _ Ur)).trans Ur;replace p102:=eq_true p102;replace q102:=eq_true q102;have p103:0≤(Zk:Int):=Yu (by first|(with_reducible assumption)|assumption);have q103:Zk<(l1.length:Int):=Yu (by first|(with_reducible assumption)|assumption);obtain⟨ad103,e103,Us⟩:=Kd.at_int HR1.out Zk p103 q103;cases e103;replace Us:=(HB.out.cell (Yb w _ Us)).trans Us;replace p103:=eq_true p103;replace q103:=eq_true q103;go_wp2_with (first|((with_reducible refine gate_builtin (b:= .append) (xs:= #[.tmp 24, .tmp 27]) rfl ?_);at_builtin;refine Kd.R_append k38 (w0:=w) w.heap.size rfl (.tmp 24) (.tmp 27) 34 38 (.agg #[(.int .i64 0),(.bool false)]) 16 rfl Try.underlying34 info38 rfl (by decide) (by omega) u5 Zt (⟨Zk,false⟩:S38) [.int .i64 Zk, .bool false] (fun _=>True) (fun _=>False) rfl rfl ?aP (fun _ hk=>hk.elim) ?aF ?aO ?aB ?aS ?aL ?_;(case aP=>exact k38_mkM _ _ _ (⟨Zk,false⟩:S38));(case aB=>exact(by repeat(first|(with_reducible first|exact HB.out|apply Ye|apply Yd|apply Yg|refine Yh ?_ Vc.out)|exact HB.out)));(case aF=>exact(fun _ _=>trivial));(case aO=>exact(by(with_reducible repeat(first|apply Yr|apply Yq|apply Yp));exact HO_5.out));(case aS=>exact(Yi (by repeat(first|(with_reducible first|exact HB.out|apply Ye|apply Yd|apply Yg|refine Yh ?_ Vc.out)|exact HB.out))));(case aL=>have:=LMc8.out;omega);intro v105 w15 ho hb hg hat;rw[← Ny104.out] at ho;have n0_:=Ya (blk_grown (g:=Wz) (o:= .cells #[.int .i64 Zc, .bool Zb, .slice (some ad102) Za.length Zd] 24 (0,0)) (by(with_reducible repeat(first|refine Yl ?_ _|refine Ym ?_|refine Yj ?_ _));exact Xb.out) hg (Kd.R_ne HO_5.out Xb.out (by decide)));have n1_:=Ya (hb);have n2_:=Ya (ho);clear Xb;clear HB;clear HO_5;have Xb:=n0_;have HB:=n1_;have HO106:=n2_;clear n0_ n1_ n2_;clear ho hb hg hat;have p107:0≤(Zk:Int):=Yu (by first|(with_reducible assumption)|assumption);have q107:Zk<(l1.length:Int):=Yu (by first|(with_reducible assumption)|assumption);obtain⟨ad107,e107,Wj⟩:=Kd.at_int HR1.out Zk p107 q107;obtain rfl:ad103=ad107:=(by injection e107);replace Wj:=(HB.out.cell (Yb w _ Wj)).trans Wj;replace p107:=eq_true p107;replace q107:=eq_true q107));repeat(go_quiet (first|((with_reducible refine gate_builtin (b:= .append) (xs:= #[.tmp 24, .tmp 27]) rfl ?_);at_builtin;refine Kd.R_append k38 (w0:=w) w.heap.size rfl (.tmp 24) (.tmp 27) 34 38 (.agg #[(.int .i64 0),(.bool false)]) 16 rfl Try.underlying34 info38 rfl (by decide) (by omega) u5 Zt (⟨Zk,false⟩:S38) [.int .i64 Zk, .bool false] (fun _=>True) (fun _=>False) rfl rfl ?aP (fun _ hk=>hk.elim) ?aF ?aO ?aB ?aS ?aL ?_;(case aP=>exact k38_mkM _ _ _ (⟨Zk,false⟩:S38));(case aB=>exact(by repeat(first|(with_reducible first|exact HB.out|apply Ye|apply Yd|apply Yg|refine Yh ?_ Vc.out)|exact HB.out)));(case aF=>exact(fun _ _=>trivial));(case aO=>exact(by(with_reducible repeat(first|apply Yr|apply Yq|apply Yp));exact HO_5.out));(case aS=>exact(Yi (by repeat(first|(with_reducible first|exact HB.out|apply Ye|apply Yd|apply Yg|refine Yh ?_ Vc.out)|exact HB.out))));(case aL=>have:=LMc8.out;omega);intro v105 w15 ho hb hg hat;rw[← Ny104.out] at ho;have n0_:=Ya (blk_grown (g:=Wz) (o:= .cells #[.int .i64 Zc, .bool Zb, .slice (some ad102) Za.length Zd] 24 (0,0)) (by(with_reducible repeat(first|refine Yl ?_ _|refine Ym ?_|refine Yj ?_ _));exact Xb.out) hg (Kd.R_ne HO_5.out Xb.out (by decide)));have n1_:=Ya (hb);have n2_:=Ya (ho);clear Xb;clear HB;clear HO_5;have Xb:=n0_;have HB:=n1_;have HO106:=n2_;clear n0_ n1_ n2_;clear ho hb hg hat;have p107:0≤(Zk:Int):=Yu (by first|(with_reducible assumption)|assumption);have q107:Zk<(l1.length:Int):=Yu (by first|(with_reducible assumption)|assumption);obtain⟨ad107,e107,Wj⟩:=Kd.at_int HR1.out Zk p107 q107;obtain rfl:ad103=ad107:=(by injection e107);replace Wj:=(HB.out.cell (Yb w _ Wj)).trans Wj;replace p107:=eq_true p107;replace q107:=eq_true q107));try go_wp2_with (first|((with_reducible refine gate_builtin (b:= .append) (xs:= #[.tmp 24, .tmp 27]) rfl ?_);at_builtin;refine Kd.R_append k38 (w0:=w) w.heap.size rfl (.tmp 24) (.tmp 27) 34 38 (.agg #[(.int .i64 0),(.bool false)]) 16 rfl Try.underlying34 info38 rfl (by decide) (by omega) u5 Zt (⟨Zk,false⟩:S38) [.int .i64 Zk, .bool false] (fun _=>True) (fun _=>False) rfl rfl ?aP (fun _ hk=>hk.elim) ?aF ?aO ?aB ?aS ?aL ?_;(case aP=>exact k38_mkM _ _ _ (⟨Zk,false⟩:S38));(case aB=>exact(by repeat(first|(with_reducible first|exact HB.out|apply Ye|apply Yd|apply Yg|refine Yh ?_ Vc.out)|exact HB.out)));(case aF=>exact(fun _ _=>trivial));(case aO=>exact(by(with_reducible repeat(first|apply Yr|apply Yq|apply Yp));exact HO_5.out));(case aS=>exact(Yi (by repeat(first|(with_reducible first|exact HB.out|apply Ye|apply Yd|apply Yg|refine Yh ?_ Vc.out)|exact HB.out))));(case aL=>have:=LMc8.out;omega);intro v105 w15 ho hb hg hat;rw[← Ny104.out] at ho;have n0_:=Ya (blk_grown (g:=Wz) (o:= .cells #[.int .i64 Zc, .bool Zb, .slice (some ad102) Za.length Zd] 24 (0,0)) (by(with_reducible repeat(first|refine Yl ?_ _|refine Ym ?_|refine Yj ?_ _));exact Xb.out) hg (Kd.R_ne HO_5.out Xb.out (by decide)));have n1_:=Ya (hb);have n2_:=Ya (ho);clear Xb;clear HB;clear HO_5;have Xb:=n0_;have HB:=n1_;have HO106:=n2_;clear n0_ n1_ n2_;clear ho hb hg hat;have p107:0≤(Zk:Int):=Yu (by first|(with_reducible assumption)|assumption);have q107:Zk<(l1.length:Int):=Yu (by first|(with_reducible assumption)|assumption);obtain⟨ad107,e107,Wj⟩:=Kd.at_int HR1.out Zk p107 q107;obtain rfl:ad103=ad107:=(by injection e107);replace Wj:=(HB.out.cell (Yb w _ Wj)).trans Wj;replace p107:=eq_true p107;replace q107:=eq_true q107)))
     go_roundg k1
     case measure=>have:=HK1.out;omega
     case rel=>exact⟨(y104),(wrap64 (Zk+1)),(by first|rfl|(simp;done)|(simp[*];done)),H',⟨by have:=HK1.out;omega⟩,⟨by(with_reducible repeat(first|apply Yr|apply Yq|apply Yp));exact HO106.out⟩,⟨by(with_reducible repeat(first|refine Yl ?_ _|refine Ym ?_|refine Yj ?_ _));exact Xb.out⟩,⟨by repeat(first|(with_reducible first|exact HB.out|apply Ye|apply Yd|apply Yg|refine Yh ?_ Vc.out)|exact HB.out)⟩⟩
    rw[Yx c9] at H;have c9b0:decide (0<(rd l1 Zk))=true:=Yv c9;clear c9;by_cases c10:y104.length<8796093022208
    rotate_left
    ·rw[Yy c10] at H
     exact absurd H (by simp)
    rw[Yx c10] at H;have LMc10:=Ya c10;clear c10;obtain⟨y108,hy108⟩: ∃ y_:List (S38),y_=(y104 ++ [(⟨Zk,true⟩:S38)]):=⟨_,rfl⟩;replace H:(ebbtideref07_Steps.l0 k1 l1 y108 (wrap64 (Zk+1)) Zc Zb Za)=some r:=by first|(rw[hy108];with_reducible exact H)|(have H2_:=(Option.bind_some _ _).symm.trans H;rw[hy108];with_reducible exact H2_)|(have H2_:=(Option.bind_some _ _).symm.trans H;with_reducible exact H2_)|with_reducible exact H|(rw[hy108];exact H)|exact H
    have Ny108:=Ya hy108;clear hy108;have H':=Ya H;clear H;have hcz11_0:wr.cell? ⟨Wz,0,none⟩=some (.int .i64 Zc):=(Yc Xb.out 0).trans rfl;have hcz11_1:wr.cell? ⟨Wz,1,none⟩=some (.bool Zb):=(Yc Xb.out 1).trans rfl;have hcz11_2:wr.cell? ⟨Wz,2,none⟩=some (.slice Ze Za.length Zd):=(Yc Xb.out 2).trans rfl;have hfz11_0:=Yf Xb.out 0;have hfz11_1:=Yf Xb.out 1;have hfz11_2:=Yf Xb.out 2;have p102:0≤(Zk:Int):=Yu (by first|(with_reducible assumption)|assumption);have q102:Zk<(Za.length:Int):=Yu (by first|(with_reducible assumption)|assumption);obtain⟨ad102,e102,Uo,Up,Uq,Ur⟩:=at_T74 Zl.out Zk p102 q102;cases e102;replace Uo:=(HB.out.cell (Yb w _ Uo)).trans Uo;replace Up:=(HB.out.cell (Yb w _ Up)).trans Up;replace Uq:=(HB.out.cell (Yb w _ Uq)).trans Uq;replace Ur:=(HB.out.cell (Yb w _ Ur)).trans Ur;replace p102:=eq_true p102;replace q102:=eq_true q102;have p103:0≤(Zk:Int):=Yu (by first|(with_reducible assumption)|assumption);have q103:Zk<(l1.length:Int):=Yu (by first|(with_reducible assumption)|assumption);obtain⟨ad103,e103,Us⟩:=Kd.at_int HR1.out Zk p103 q103;cases e103;replace Us:=(HB.out.cell (Yb w _ Us)).trans Us;replace p103:=eq_true p103;replace q103:=eq_true q103;go_wp2_with (first|((with_reducible refine gate_builtin (b:= .append) (xs:= #[.tmp 24, .tmp 27]) rfl ?_);at_builtin;refine Kd.R_append k38 (w0:=w) w.heap.size rfl (.tmp 24) (.tmp 27) 34 38 (.agg #[(.int .i64 0),(.bool false)]) 16 rfl Try.underlying34 info38 rfl (by decide) (by omega) u5 Zt (⟨Zk,false⟩:S38) [.int .i64 Zk, .bool false] (fun _=>True) (fun _=>False) rfl rfl ?aP (fun _ hk=>hk.elim) ?aF ?aO ?aB ?aS ?aL ?_;(case aP=>exact k38_mkM _ _ _ (⟨Zk,false⟩:S38));(case aB=>exact(by repeat(first|(with_reducible first|exact HB.out|apply Ye|apply Yd|apply Yg|refine Yh ?_ Vc.out)|exact HB.out)));(case aF=>exact(fun _ _=>trivial));(case aO=>exact(by(with_reducible repeat(first|apply Yr|apply Yq|apply Yp));exact HO_5.out));(case aS=>exact(Yi (by repeat(first|(with_reducible first|exact HB.out|apply Ye|apply Yd|apply Yg|refine Yh ?_ Vc.out)|exact HB.out))));(case aL=>have:=LMc8.out;omega);intro v105 w12 ho hb hg hat;rw[← Ny104.out] at ho;have n0_:=Ya (blk_grown (g:=Wz) (o:= .cells #[.int .i64 Zc, .bool Zb, .slice (some ad102) Za.length Zd] 24 (0,0)) (by(with_reducible repeat(first|refine Yl ?_ _|refine Ym ?_|refine Yj ?_ _));exact Xb.out) hg (Kd.R_ne HO_5.out Xb.out (by decide)));have n1_:=Ya (hb);have n2_:=Ya (ho);clear Xb;clear HB;clear HO_5;have Xb:=n0_;have HB:=n1_;have HO106:=n2_;clear n0_ n1_ n2_;clear ho hb hg hat;have p107:0≤(Zk:Int):=Yu (by first|(with_reducible assumption)|assumption);have q107:Zk<(l1.length:Int):=Yu (by first|(with_reducible assumption)|assumption);obtain⟨ad107,e107,Wj⟩:=Kd.at_int HR1.out Zk p107 q107;obtain rfl:ad103=ad107:=(by injection e107);replace Wj:=(HB.out.cell (Yb w _ Wj)).trans Wj;replace p107:=eq_true p107;replace q107:=eq_true q107)|((with_reducible refine gate_builtin (b:= .append) (xs:= #[.tmp 34, .tmp 37]) rfl ?_);at_builtin;refine Kd.R_append k38 (w0:=w) w.heap.size rfl (.tmp 34) (.tmp 37) 34 38 (.agg #[(.int .i64 0),(.bool false)]) 16 rfl Try.underlying34 info38 rfl (by decide) (by omega) v105 y104 (⟨Zk,true⟩:S38) [.int .i64 Zk, .bool true] (fun _=>True) (fun _=>False) rfl rfl ?aP (fun _ hk=>hk.elim) ?aF ?aO ?aB ?aS ?aL ?_;(case aP=>exact k38_mkM _ _ _ (⟨Zk,true⟩:S38));(case aB=>exact(by repeat(first|(with_reducible first|exact HB.out|apply Ye|apply Yd|apply Yg|refine Yh ?_ Vc.out)|exact HB.out)));(case aF=>exact(fun _ _=>trivial));(case aO=>exact(by(with_reducible repeat(first|apply Yr|apply Yq|apply Yp));exact HO106.out));(case aS=>exact(Yi (by repeat(first|(with_reducible first|exact HB.out|apply Ye|apply Yd|apply Yg|refine Yh ?_ Vc.out)|exact HB.out))));(case aL=>have:=LMc10.out;omega);intro v109 w13 ho hb hg hat;rw[← Ny108.out] at ho;have n0_:=Ya (blk_grown (g:=Wz) (o:= .cells #[.int .i64 Zc, .bool Zb, .slice (some ad102) Za.length Zd] 24 (0,0)) (by(with_reducible repeat(first|refine Yl ?_ _|refine Ym ?_|refine Yj ?_ _));exact Xb.out) hg (Kd.R_ne HO106.out Xb.out (by decide)));have n1_:=Ya (hb);have n2_:=Ya (ho);clear Xb;clear HB;clear HO106;have Xb:=n0_;have HB:=n1_;have HO110:=n2_;clear n0_ n1_ n2_;clear ho hb hg hat));repeat(go_quiet (first|((with_reducible refine gate_builtin (b:= .append) (xs:= #[.tmp 24, .tmp 27]) rfl ?_);at_builtin;refine Kd.R_append k38 (w0:=w) w.heap.size rfl (.tmp 24) (.tmp 27) 34 38 (.agg #[(.int .i64 0),(.bool false)]) 16 rfl Try.underlying34 info38 rfl (by decide) (by omega) u5 Zt (⟨Zk,false⟩:S38) [.int .i64 Zk, .bool false] (fun _=>True) (fun _=>False) rfl rfl ?aP (fun _ hk=>hk.elim) ?aF ?aO ?aB ?aS ?aL ?_;(case aP=>exact k38_mkM _ _ _ (⟨Zk,false⟩:S38));(case aB=>exact(by repeat(first|(with_reducible first|exact HB.out|apply Ye|apply Yd|apply Yg|refine Yh ?_ Vc.out)|exact HB.out)));(case aF=>exact(fun _ _=>trivial));(case aO=>exact(by(with_reducible repeat(first|apply Yr|apply Yq|apply Yp));exact HO_5.out));(case aS=>exact(Yi (by repeat(first|(with_reducible first|exact HB.out|apply Ye|apply Yd|apply Yg|refine Yh ?_ Vc.out)|exact HB.out))));(case aL=>have:=LMc8.out;omega);intro v105 w12 ho hb hg hat;rw[← Ny104.out] at ho;have n0_:=Ya (blk_grown (g:=Wz) (o:= .cells #[.int .i64 Zc, .bool Zb, .slice (some ad102) Za.length Zd] 24 (0,0)) (by(with_reducible repeat(first|refine Yl ?_ _|refine Ym ?_|refine Yj ?_ _));exact Xb.out) hg (Kd.R_ne HO_5.out Xb.out (by decide)));have n1_:=Ya (hb);have n2_:=Ya (ho);clear Xb;clear HB;clear HO_5;have Xb:=n0_;have HB:=n1_;have HO106:=n2_;clear n0_ n1_ n2_;clear ho hb hg hat;have p107:0≤(Zk:Int):=Yu (by first|(with_reducible assumption)|assumption);have q107:Zk<(l1.length:Int):=Yu (by first|(with_reducible assumption)|assumption);obtain⟨ad107,e107,Wj⟩:=Kd.at_int HR1.out Zk p107 q107;obtain rfl:ad103=ad107:=(by injection e107);replace Wj:=(HB.out.cell (Yb w _ Wj)).trans Wj;replace p107:=eq_true p107;replace q107:=eq_true q107)|((with_reducible refine gate_builtin (b:= .append) (xs:= #[.tmp 34, .tmp 37]) rfl ?_);at_builtin;refine Kd.R_append k38 (w0:=w) w.heap.size rfl (.tmp 34) (.tmp 37) 34 38 (.agg #[(.int .i64 0),(.bool false)]) 16 rfl Try.underlying34 info38 rfl (by decide) (by omega) v105 y104 (⟨Zk,true⟩:S38) [.int .i64 Zk, .bool true] (fun _=>True) (fun _=>False) rfl rfl ?aP (fun _ hk=>hk.elim) ?aF ?aO ?aB ?aS ?aL ?_;(case aP=>exact k38_mkM _ _ _ (⟨Zk,true⟩:S38));(case aB=>exact(by repeat(first|(with_reducible first|exact HB.out|apply Ye|apply Yd|apply Yg|refine Yh ?_ Vc.out)|exact HB.out)));(case aF=>exact(fun _ _=>trivial));(case aO=>exact(by(with_reducible repeat(first|apply Yr|apply Yq|apply Yp));exact HO106.out));(case aS=>exact(Yi (by repeat(first|(with_reducible first|exact HB.out|apply Ye|apply Yd|apply Yg|refine Yh ?_ Vc.out)|exact HB.out))));(case aL=>have:=LMc10.out;omega);intro v109 w13 ho hb hg hat;rw[← Ny108.out] at ho;have n0_:=Ya (blk_grown (g:=Wz) (o:= .cells #[.int .i64 Zc, .bool Zb, .slice (some ad102) Za.length Zd] 24 (0,0)) (by(with_reducible repeat(first|refine Yl ?_ _|refine Ym ?_|refine Yj ?_ _));exact Xb.out) hg (Kd.R_ne HO106.out Xb.out (by decide)));have n1_:=Ya (hb);have n2_:=Ya (ho);clear Xb;clear HB;clear HO106;have Xb:=n0_;have HB:=n1_;have HO110:=n2_;clear n0_ n1_ n2_;clear ho hb hg hat));try go_wp2_with (first|((with_reducible refine gate_builtin (b:= .append) (xs:= #[.tmp 24, .tmp 27]) rfl ?_);at_builtin;refine Kd.R_append k38 (w0:=w) w.heap.size rfl (.tmp 24) (.tmp 27) 34 38 (.agg #[(.int .i64 0),(.bool false)]) 16 rfl Try.underlying34 info38 rfl (by decide) (by omega) u5 Zt (⟨Zk,false⟩:S38) [.int .i64 Zk, .bool false] (fun _=>True) (fun _=>False) rfl rfl ?aP (fun _ hk=>hk.elim) ?aF ?aO ?aB ?aS ?aL ?_;(case aP=>exact k38_mkM _ _ _ (⟨Zk,false⟩:S38));(case aB=>exact(by repeat(first|(with_reducible first|exact HB.out|apply Ye|apply Yd|apply Yg|refine Yh ?_ Vc.out)|exact HB.out)));(case aF=>exact(fun _ _=>trivial));(case aO=>exact(by(with_reducible repeat(first|apply Yr|apply Yq|apply Yp));exact HO_5.out));(case aS=>exact(Yi (by repeat(first|(with_reducible first|exact HB.out|apply Ye|apply Yd|apply Yg|refine Yh ?_ Vc.out)|exact HB.out))));(case aL=>have:=LMc8.out;omega);intro v105 w12 ho hb hg hat;rw[← Ny104.out] at ho;have n0_:=Ya (blk_grown (g:=Wz) (o:= .cells #[.int .i64 Zc, .bool Zb, .slice (some ad102) Za.length Zd] 24 (0,0)) (by(with_reducible repeat(first|refine Yl ?_ _|refine Ym ?_|refine Yj ?_ _));exact Xb.out) hg (Kd.R_ne HO_5.out Xb.out (by decide)));have n1_:=Ya (hb);have n2_:=Ya (ho);clear Xb;clear HB;clear HO_5;have Xb:=n0_;have HB:=n1_;have HO106:=n2_;clear n0_ n1_ n2_;clear ho hb hg hat;have p107:0≤(Zk:Int):=Yu (by first|(with_reducible assumption)|assumption);have q107:Zk<(l1.length:Int):=Yu (by first|(with_reducible assumption)|assumption);obtain⟨ad107,e107,Wj⟩:=Kd.at_int HR1.out Zk p107 q107;obtain rfl:ad103=ad107:=(by injection e107);replace Wj:=(HB.out.cell (Yb w _ Wj)).trans Wj;replace p107:=eq_true p107;replace q107:=eq_true q107)|((with_reducible refine gate_builtin (b:= .append) (xs:= #[.tmp 34, .tmp 37]) rfl ?_);at_builtin;refine Kd.R_append k38 (w0:=w) w.heap.size rfl (.tmp 34) (.tmp 37) 34 38 (.agg #[(.int .i64 0),(.bool false)]) 16 rfl Try.underlying34 info38 rfl (by decide) (by omega) v105 y104 (⟨Zk,true⟩:S38) [.int .i64 Zk, .bool true] (fun _=>True) (fun _=>False) rfl rfl ?aP (fun _ hk=>hk.elim) ?aF ?aO ?aB ?aS ?aL ?_;(case aP=>exact k38_mkM _ _ _ (⟨Zk,true⟩:S38));(case aB=>exact(by repeat(first|(with_reducible first|exact HB.out|apply Ye|apply Yd|apply Yg|refine Yh ?_ Vc.out)|exact HB.out)));(case aF=>exact(fun _ _=>trivial));(case aO=>exact(by(with_reducible repeat(first|apply Yr|apply Yq|apply Yp));exact HO106.out));(case aS=>exact(Yi (by repeat(first|(with_reducible first|exact HB.out|apply Ye|apply Yd|apply Yg|refine Yh ?_ Vc.out)|exact HB.out))));(case aL=>have:=LMc10.out;omega);intro v109 w13 ho hb hg hat;rw[← Ny108.out] at ho;have n0_:=Ya (blk_grown (g:=Wz) (o:= .cells #[.int .i64 Zc, .bool Zb, .slice (some ad102) Za.length Zd] 24 (0,0)) (by(with_reducible repeat(first|refine Yl ?_ _|refine Ym ?_|refine Yj ?_ _));exact Xb.out) hg (Kd.R_ne HO106.out Xb.out (by decide)));have n1_:=Ya (hb);have n2_:=Ya (ho);clear Xb;clear HB;clear HO106;have Xb:=n0_;have HB:=n1_;have HO110:=n2_;clear n0_ n1_ n2_;clear ho hb hg hat)))
    go_roundg k1
    case measure=>have:=HK1.out;omega
    case rel=>exact⟨(y108),(wrap64 (Zk+1)),(by first|rfl|(simp;done)|(simp[*];done)),H',⟨by have:=HK1.out;omega⟩,⟨by(with_reducible repeat(first|apply Yr|apply Yq|apply Yp));exact HO110.out⟩,⟨by(with_reducible repeat(first|refine Yl ?_ _|refine Ym ?_|refine Yj ?_ _));exact Xb.out⟩,⟨by repeat(first|(with_reducible first|exact HB.out|apply Ye|apply Yd|apply Yg|refine Yh ?_ Vc.out)|exact HB.out)⟩⟩
   rw[Yy c7] at H;have c7b0:decide ((rd l1 Zk)<((rd_T74 Za Zk).f2))=false:=Yw c7;clear c7;by_cases c16:(rd l1 Zk)>0
   rotate_left
   ·rw[Yy c16] at H
    have c16b0:decide (0<(rd l1 Zk))=false:=Yw c16;clear c16;have H':=Ya H;clear H;have hcz20_0:wr.cell? ⟨Wz,0,none⟩=some (.int .i64 Zc):=(Yc Xb.out 0).trans rfl;have hcz20_1:wr.cell? ⟨Wz,1,none⟩=some (.bool Zb):=(Yc Xb.out 1).trans rfl;have hcz20_2:wr.cell? ⟨Wz,2,none⟩=some (.slice Ze Za.length Zd):=(Yc Xb.out 2).trans rfl;have hfz20_0:=Yf Xb.out 0;have hfz20_1:=Yf Xb.out 1;have hfz20_2:=Yf Xb.out 2;have p102:0≤(Zk:Int):=Yu (by first|(with_reducible assumption)|assumption);have q102:Zk<(Za.length:Int):=Yu (by first|(with_reducible assumption)|assumption);obtain⟨ad102,e102,Uo,Up,Uq,Ur⟩:=at_T74 Zl.out Zk p102 q102;cases e102;replace Uo:=(HB.out.cell (Yb w _ Uo)).trans Uo;replace Up:=(HB.out.cell (Yb w _ Up)).trans Up;replace Uq:=(HB.out.cell (Yb w _ Uq)).trans Uq;replace Ur:=(HB.out.cell (Yb w _ Ur)).trans Ur;replace p102:=eq_true p102;replace q102:=eq_true q102;have p103:0≤(Zk:Int):=Yu (by first|(with_reducible assumption)|assumption);have q103:Zk<(l1.length:Int):=Yu (by first|(with_reducible assumption)|assumption);obtain⟨ad103,e103,Us⟩:=Kd.at_int HR1.out Zk p103 q103;cases e103;replace Us:=(HB.out.cell (Yb w _ Us)).trans Us;replace p103:=eq_true p103;replace q103:=eq_true q103;have p111:0≤(Zk:Int):=Yu (by first|(with_reducible assumption)|assumption);have q111:Zk<(l1.length:Int):=Yu (by first|(with_reducible assumption)|assumption);obtain⟨ad111,e111,hx111_0⟩:=Kd.at_int HR1.out Zk p111 q111;obtain rfl:ad103=ad111:=(by injection e111);replace hx111_0:=(HB.out.cell (Yb w _ hx111_0)).trans hx111_0;replace p111:=eq_true p111;replace q111:=eq_true q111;go_wp2;repeat(go_quiet (fail);try go_wp2)
    go_roundg k1
    case measure=>have:=HK1.out;omega
    case rel=>exact⟨(Zt),(wrap64 (Zk+1)),(by first|rfl|(simp;done)|(simp[*];done)),H',⟨by have:=HK1.out;omega⟩,⟨by(with_reducible repeat(first|apply Yr|apply Yq|apply Yp));exact HO_5.out⟩,⟨by(with_reducible repeat(first|refine Yl ?_ _|refine Ym ?_|refine Yj ?_ _));exact Xb.out⟩,⟨by repeat(first|(with_reducible first|exact HB.out|apply Ye|apply Yd|apply Yg|refine Yh ?_ Vc.out)|exact HB.out)⟩⟩
   rw[Yx c16] at H;have c16b0:decide (0<(rd l1 Zk))=true:=Yv c16;clear c16;by_cases c17:Zt.length<8796093022208
   rotate_left
   ·rw[Yy c17] at H
    exact absurd H (by simp)
   rw[Yx c17] at H;have LMc17:=Ya c17;clear c17;obtain⟨y112,hy112⟩: ∃ y_:List (S38),y_=(Zt ++ [(⟨Zk,true⟩:S38)]):=⟨_,rfl⟩;replace H:(ebbtideref07_Steps.l0 k1 l1 y112 (wrap64 (Zk+1)) Zc Zb Za)=some r:=by first|(rw[hy112];with_reducible exact H)|(have H2_:=(Option.bind_some _ _).symm.trans H;rw[hy112];with_reducible exact H2_)|(have H2_:=(Option.bind_some _ _).symm.trans H;with_reducible exact H2_)|with_reducible exact H|(rw[hy112];exact H)|exact H
   have Ny112:=Ya hy112;clear hy112;have H':=Ya H;clear H;have hcz18_0:wr.cell? ⟨Wz,0,none⟩=some (.int .i64 Zc):=(Yc Xb.out 0).trans rfl;have hcz18_1:wr.cell? ⟨Wz,1,none⟩=some (.bool Zb):=(Yc Xb.out 1).trans rfl;have hcz18_2:wr.cell? ⟨Wz,2,none⟩=some (.slice Ze Za.length Zd):=(Yc Xb.out 2).trans rfl;have hfz18_0:=Yf Xb.out 0;have hfz18_1:=Yf Xb.out 1;have hfz18_2:=Yf Xb.out 2;have p102:0≤(Zk:Int):=Yu (by first|(with_reducible assumption)|assumption);have q102:Zk<(Za.length:Int):=Yu (by first|(with_reducible assumption)|assumption);obtain⟨ad102,e102,Uo,Up,Uq,Ur⟩:=at_T74 Zl.out Zk p102 q102;cases e102;replace Uo:=(HB.out.cell (Yb w _ Uo)).trans Uo;replace Up:=(HB.out.cell (Yb w _ Up)).trans Up;replace Uq:=(HB.out.cell (Yb w _ Uq)).trans Uq;replace Ur:=(HB.out.cell (Yb w _ Ur)).trans Ur;replace p102:=eq_true p102;replace q102:=eq_true q102;have p103:0≤(Zk:Int):=Yu (by first|(with_reducible assumption)|assumption);have q103:Zk<(l1.length:Int):=Yu (by first|(with_reducible assumption)|assumption);obtain⟨ad103,e103,Us⟩:=Kd.at_int HR1.out Zk p103 q103;cases e103;replace Us:=(HB.out.cell (Yb w _ Us)).trans Us;replace p103:=eq_true p103;replace q103:=eq_true q103;have p111:0≤(Zk:Int):=Yu (by first|(with_reducible assumption)|assumption);have q111:Zk<(l1.length:Int):=Yu (by first|(with_reducible assumption)|assumption);obtain⟨ad111,e111,hx111_0⟩:=Kd.at_int HR1.out Zk p111 q111;obtain rfl:ad103=ad111:=(by injection e111);replace hx111_0:=(HB.out.cell (Yb w _ hx111_0)).trans hx111_0;replace p111:=eq_true p111;replace q111:=eq_true q111;go_wp2_with (first|((with_reducible refine gate_builtin (b:= .append) (xs:= #[.tmp 34, .tmp 37]) rfl ?_);at_builtin;refine Kd.R_append k38 (w0:=w) w.heap.size rfl (.tmp 34) (.tmp 37) 34 38 (.agg #[(.int .i64 0),(.bool false)]) 16 rfl Try.underlying34 info38 rfl (by decide) (by omega) u5 Zt (⟨Zk,true⟩:S38) [.int .i64 Zk, .bool true] (fun _=>True) (fun _=>False) rfl rfl ?aP (fun _ hk=>hk.elim) ?aF ?aO ?aB ?aS ?aL ?_;(case aP=>exact k38_mkM _ _ _ (⟨Zk,true⟩:S38));(case aB=>exact(by repeat(first|(with_reducible first|exact HB.out|apply Ye|apply Yd|apply Yg|refine Yh ?_ Vc.out)|exact HB.out)));(case aF=>exact(fun _ _=>trivial));(case aO=>exact(by(with_reducible repeat(first|apply Yr|apply Yq|apply Yp));exact HO_5.out));(case aS=>exact(Yi (by repeat(first|(with_reducible first|exact HB.out|apply Ye|apply Yd|apply Yg|refine Yh ?_ Vc.out)|exact HB.out))));(case aL=>have:=LMc17.out;omega);intro v113 w19 ho hb hg hat;rw[← Ny112.out] at ho;have n0_:=Ya (blk_grown (g:=Wz) (o:= .cells #[.int .i64 Zc, .bool Zb, .slice (some ad102) Za.length Zd] 24 (0,0)) (by(with_reducible repeat(first|refine Yl ?_ _|refine Ym ?_|refine Yj ?_ _));exact Xb.out) hg (Kd.R_ne HO_5.out Xb.out (by decide)));have n1_:=Ya (hb);have n2_:=Ya (ho);clear Xb;clear HB;clear HO_5;have Xb:=n0_;have HB:=n1_;have HO114:=n2_;clear n0_ n1_ n2_;clear ho hb hg hat));repeat(go_quiet (first|((with_reducible refine gate_builtin (b:= .append) (xs:= #[.tmp 34, .tmp 37]) rfl ?_);at_builtin;refine Kd.R_append k38 (w0:=w) w.heap.size rfl (.tmp 34) (.tmp 37) 34 38 (.agg #[(.int .i64 0),(.bool false)]) 16 rfl Try.underlying34 info38 rfl (by decide) (by omega) u5 Zt (⟨Zk,true⟩:S38) [.int .i64 Zk, .bool true] (fun _=>True) (fun _=>False) rfl rfl ?aP (fun _ hk=>hk.elim) ?aF ?aO ?aB ?aS ?aL ?_;(case aP=>exact k38_mkM _ _ _ (⟨Zk,true⟩:S38));(case aB=>exact(by repeat(first|(with_reducible first|exact HB.out|apply Ye|apply Yd|apply Yg|refine Yh ?_ Vc.out)|exact HB.out)));(case aF=>exact(fun _ _=>trivial));(case aO=>exact(by(with_reducible repeat(first|apply Yr|apply Yq|apply Yp));exact HO_5.out));(case aS=>exact(Yi (by repeat(first|(with_reducible first|exact HB.out|apply Ye|apply Yd|apply Yg|refine Yh ?_ Vc.out)|exact HB.out))));(case aL=>have:=LMc17.out;omega);intro v113 w19 ho hb hg hat;rw[← Ny112.out] at ho;have n0_:=Ya (blk_grown (g:=Wz) (o:= .cells #[.int .i64 Zc, .bool Zb, .slice (some ad102) Za.length Zd] 24 (0,0)) (by(with_reducible repeat(first|refine Yl ?_ _|refine Ym ?_|refine Yj ?_ _));exact Xb.out) hg (Kd.R_ne HO_5.out Xb.out (by decide)));have n1_:=Ya (hb);have n2_:=Ya (ho);clear Xb;clear HB;clear HO_5;have Xb:=n0_;have HB:=n1_;have HO114:=n2_;clear n0_ n1_ n2_;clear ho hb hg hat));try go_wp2_with (first|((with_reducible refine gate_builtin (b:= .append) (xs:= #[.tmp 34, .tmp 37]) rfl ?_);at_builtin;refine Kd.R_append k38 (w0:=w) w.heap.size rfl (.tmp 34) (.tmp 37) 34 38 (.agg #[(.int .i64 0),(.bool false)]) 16 rfl Try.underlying34 info38 rfl (by decide) (by omega) u5 Zt (⟨Zk,true⟩:S38) [.int .i64 Zk, .bool true] (fun _=>True) (fun _=>False) rfl rfl ?aP (fun _ hk=>hk.elim) ?aF ?aO ?aB ?aS ?aL ?_;(case aP=>exact k38_mkM _ _ _ (⟨Zk,true⟩:S38));(case aB=>exact(by repeat(first|(with_reducible first|exact HB.out|apply Ye|apply Yd|apply Yg|refine Yh ?_ Vc.out)|exact HB.out)));(case aF=>exact(fun _ _=>trivial));(case aO=>exact(by(with_reducible repeat(first|apply Yr|apply Yq|apply Yp));exact HO_5.out));(case aS=>exact(Yi (by repeat(first|(with_reducible first|exact HB.out|apply Ye|apply Yd|apply Yg|refine Yh ?_ Vc.out)|exact HB.out))));(case aL=>have:=LMc17.out;omega);intro v113 w19 ho hb hg hat;rw[← Ny112.out] at ho;have n0_:=Ya (blk_grown (g:=Wz) (o:= .cells #[.int .i64 Zc, .bool Zb, .slice (some ad102) Za.length Zd] 24 (0,0)) (by(with_reducible repeat(first|refine Yl ?_ _|refine Ym ?_|refine Yj ?_ _));exact Xb.out) hg (Kd.R_ne HO_5.out Xb.out (by decide)));have n1_:=Ya (hb);have n2_:=Ya (ho);clear Xb;clear HB;clear HO_5;have Xb:=n0_;have HB:=n1_;have HO114:=n2_;clear n0_ n1_ n2_;clear ho hb hg hat)))
   go_roundg k1
   case measure=>have:=HK1.out;omega
   case rel=>exact⟨(y112),(wrap64 (Zk+1)),(by first|rfl|(simp;done)|(simp[*];done)),H',⟨by have:=HK1.out;omega⟩,⟨by(with_reducible repeat(first|apply Yr|apply Yq|apply Yp));exact HO114.out⟩,⟨by(with_reducible repeat(first|refine Yl ?_ _|refine Ym ?_|refine Yj ?_ _));exact Xb.out⟩,⟨by repeat(first|(with_reducible first|exact HB.out|apply Ye|apply Yd|apply Yg|refine Yh ?_ Vc.out)|exact HB.out)⟩⟩
end P
namespace P
attribute [local go_sem] max2_int min2_int max_two min_two max_three min_three max_four min_four
def ebbtideref07_From.f (Zc:Int) (Zb:Bool) (Za:List (S74)) (Zg:Int) (Xd:Bool):Option (Int):=if Xd=true then(if 0≤Zg then(if Zg<(Za.length:Int) then(some ((rd_T74 Za Zg).f1)) else(none)) else(none)) else(if 0≤Zg then(if Zg<(Za.length:Int) then(some ((rd_T74 Za Zg).f0)) else(none)) else(none))
set_option maxHeartbeats 8000000 in
set_option maxRecDepth 100000 in
theorem ebbtideref07_From.calls (Zc:Int) (Zb:Bool) (Ze:Option Addr) (Zd:Nat) (Za:List (S74)) (Zg:Int) (Xd:Bool) (r:Int) (w:World) (Zr:Kd.C k74 w Ze Za.length Za) (Zs:Za.length≤Zd) (h:ebbtideref07_From.f Zc Zb Za Zg Xd=some r):
  Calls Try.prog 44 #[.agg #[.int .i64 Zc, .bool Zb, .slice Ze Za.length Zd], .agg #[.int .i64 Zg, .bool Xd]] w fun e w'=>e= .returned (.int .i64 r)∧Below w.heap.size w w':=by
 have hu24:=Try.underlying24;have hu38:=Try.underlying38;have Zl:=Ya Zr;have Zv:=Ya Zs;clear Zr Zs;have HB:=Ya (Yo w.heap.size w);have H:(if Xd=true then(if 0≤Zg then(if Zg<(Za.length:Int) then(some ((rd_T74 Za Zg).f1)) else(none)) else(none)) else(if 0≤Zg then(if Zg<(Za.length:Int) then(some ((rd_T74 Za Zg).f0)) else(none)) else(none)))=some r:=h;clear h;by_cases c3:Xd=true
 ·subst c3
  have H1:(if 0≤Zg then(if Zg<(Za.length:Int) then(some ((rd_T74 Za Zg).f1)) else(none)) else(none))=some r:=by first|(rw[Yx rfl] at H;exact H)|(rw[Yx trivial] at H;exact H)
  clear H;have H:=H1;clear H1;by_cases c4:0≤Zg
  rotate_left
  ·rw[Yy c4] at H
   exact absurd H (by simp)
  rw[Yx c4] at H;have c4b0:decide (0≤Zg)=true:=Yv c4;clear c4;by_cases c5:Zg<(Za.length:Int)
  rotate_left
  ·rw[Yy c5] at H
   exact absurd H (by simp)
  rw[Yx c5] at H;have c5b0:decide (Zg<(Za.length:Int))=true:=Yv c5;clear c5;obtain rfl:=Option.some.inj H;go_enter Try.func44,Try.ntmps44;go_wp2_with (first|((with_reducible refine gate_dst (N:=2) rfl ?_);refine Yz ?hg (N:=2) ?hd (cs:= #[.int .i64 Zc, .bool Zb, .slice Ze Za.length Zd]) (t:=24) ?hr ?_;(case hd=>rfl);(case hg=>rfl);(case hr=>first|(go_simp;done)|(go_simp;rfl));intro Jv hg w6 Zf hb;have n0_:=Ya (Yk (by repeat(first|(with_reducible first|exact HB.out|apply Ye|apply Yd|apply Yg)|exact HB.out)) hb);have n1_:=Ya (Zf);have n2_:=Ya ((by rw[hg];exact(Yi (by repeat(first|(with_reducible first|exact HB.out|apply Ye|apply Yd|apply Yg)|exact HB.out))):w.heap.size≤Jv));have n3_:=Ya ((by rw[hg];exact(Yi (by repeat(first|(with_reducible first|exact HB.out|apply Ye|apply Yd|apply Yg)|exact HB.out))):w.heap.size≤Jv));clear HB;have HB:=n0_;have Jd:=n1_;have GW115:=n2_;have GE115:=n3_;clear n0_ n1_ n2_ n3_;clear hb Zf hg)|((with_reducible refine gate_dst (N:=3) rfl ?_);refine Yz ?hg (N:=3) ?hd (cs:= #[.int .i64 Zg, .bool true]) (t:=38) ?hr ?_;(case hd=>rfl);(case hg=>rfl);(case hr=>first|(go_simp;done)|(go_simp;rfl));intro Xr hg w7 Zf hb;have n0_:=Ya (Yn (g:=Jv) (o:= .cells #[.int .i64 Zc, .bool Zb, .slice Ze Za.length Zd] 24 (0,0)) (by(with_reducible repeat(first|refine Yl ?_ _|refine Ym ?_|refine Yj ?_ _));exact Jd.out) hb);have n1_:=Ya (Yk (by repeat(first|(with_reducible first|exact HB.out|apply Ye|apply Yd|apply Yg|refine Yh ?_ GE115.out)|exact HB.out)) hb);have n2_:=Ya (Zf);have n3_:=Ya ((by rw[hg];exact(Yi (by repeat(first|(with_reducible first|exact HB.out|apply Ye|apply Yd|apply Yg|refine Yh ?_ GE115.out)|exact HB.out))):w.heap.size≤Xr));have n4_:=Ya ((by rw[hg];exact(Yi (by repeat(first|(with_reducible first|exact HB.out|apply Ye|apply Yd|apply Yg|refine Yh ?_ GE115.out)|exact HB.out))):w.heap.size≤Xr));have n5_:=Ya ((by rw[hg];exact Nat.ne_of_lt (blk_lt (g:=Jv) (o:= .cells #[.int .i64 Zc, .bool Zb, .slice Ze Za.length Zd] 24 (0,0)) (by(with_reducible repeat(first|refine Yl ?_ _|refine Ym ?_|refine Yj ?_ _));exact Jd.out)):Jv≠Xr));have n6_:=Ya ((by rw[hg];exact Nat.ne_of_gt (blk_lt (g:=Jv) (o:= .cells #[.int .i64 Zc, .bool Zb, .slice Ze Za.length Zd] 24 (0,0)) (by(with_reducible repeat(first|refine Yl ?_ _|refine Ym ?_|refine Yj ?_ _));exact Jd.out)):Xr≠Jv));clear Jd;clear HB;have Jd:=n0_;have HB:=n1_;have Xt:=n2_;have GW116:=n3_;have GE116:=n4_;have NB115_116:=n5_;have NB116_115:=n6_;clear n0_ n1_ n2_ n3_ n4_ n5_ n6_;clear hb Zf hg;have hnb8:=NB116_115.out;have hnc8:=NB115_116.out;have hcz9_0:w7.cell? ⟨Xr,0,none⟩=some (.int .i64 Zg):=(Yc Xt.out 0).trans rfl;have hcz9_1:w7.cell? ⟨Xr,1,none⟩=some (.bool true):=(Yc Xt.out 1).trans rfl;have hfz9_0:=Yf Xt.out 0;have hfz9_1:=Yf Xt.out 1;have Vs:w7.cell? ⟨Jv,0,none⟩=some (.int .i64 Zc):=(Yc Jd.out 0).trans rfl;have Vt:w7.cell? ⟨Jv,1,none⟩=some (.bool Zb):=(Yc Jd.out 1).trans rfl;have Jq:w7.cell? ⟨Jv,2,none⟩=some (.slice Ze Za.length Zd):=(Yc Jd.out 2).trans rfl;have Vu:=Yf Jd.out 0;have Vv:=Yf Jd.out 1;have Jr:=Yf Jd.out 2;have p117:0≤(Zg:Int):=Yu (by first|(with_reducible assumption)|assumption);have q117:Zg<(Za.length:Int):=Yu (by first|(with_reducible assumption)|assumption);obtain⟨ad117,e117,hx117_0,hx117_1,hx117_2,hx117_3⟩:=at_T74 Zl.out Zg p117 q117;cases e117;replace hx117_0:=(HB.out.cell (Yb w _ hx117_0)).trans hx117_0;replace hx117_1:=(HB.out.cell (Yb w _ hx117_1)).trans hx117_1;replace hx117_2:=(HB.out.cell (Yb w _ hx117_2)).trans hx117_2;replace hx117_3:=(HB.out.cell (Yb w _ hx117_3)).trans hx117_3;replace p117:=eq_true p117;replace q117:=eq_true q117));go_ret;exact⟨by first|rfl|(simp[errW_none,errW_some]<;>rfl)|(simp[*,errW_none,errW_some]<;>rfl),by repeat(first|(with_reducible first|exact HB.out|apply Ye|apply Yd|apply Yg|refine Yh ?_ GE115.out|refine Yh ?_ GE116.out)|exact HB.out)⟩
 replace c3:=Bool.eq_false_iff.mpr c3;subst c3;have H1:(if 0≤Zg then(if Zg<(Za.length:Int) then(some ((rd_T74 Za Zg).f0)) else(none)) else(none))=some r:=by rw[Yy (show ¬ (false=true) by decide)] at H;exact H
 clear H;have H:=H1;clear H1;by_cases c11:0≤Zg
 rotate_left
 ·rw[Yy c11] at H
  exact absurd H (by simp)
 rw[Yx c11] at H;have c11b0:decide (0≤Zg)=true:=Yv c11;clear c11;by_cases c12:Zg<(Za.length:Int)
 rotate_left
 ·rw[Yy c12] at H
  exact absurd H (by simp)
 rw[Yx c12] at H;have c12b0:decide (Zg<(Za.length:Int))=true:=Yv c12;clear c12;obtain rfl:=Option.some.inj H;go_enter Try.func44,Try.ntmps44;go_wp2_with (first|((with_reducible refine gate_dst (N:=2) rfl ?_);refine Yz ?hg (N:=2) ?hd (cs:= #[.int .i64 Zc, .bool Zb, .slice Ze Za.length Zd]) (t:=24) ?hr ?_;(case hd=>rfl);(case hg=>rfl);(case hr=>first|(go_simp;done)|(go_simp;rfl));intro Jv hg w13 Zf hb;have n0_:=Ya (Yk (by repeat(first|(with_reducible first|exact HB.out|apply Ye|apply Yd|apply Yg)|exact HB.out)) hb);have n1_:=Ya (Zf);have n2_:=Ya ((by rw[hg];exact(Yi (by repeat(first|(with_reducible first|exact HB.out|apply Ye|apply Yd|apply Yg)|exact HB.out))):w.heap.size≤Jv));have n3_:=Ya ((by rw[hg];exact(Yi (by repeat(first|(with_reducible first|exact HB.out|apply Ye|apply Yd|apply Yg)|exact HB.out))):w.heap.size≤Jv));clear HB;have HB:=n0_;have Jd:=n1_;have GW115:=n2_;have GE115:=n3_;clear n0_ n1_ n2_ n3_;clear hb Zf hg)|((with_reducible refine gate_dst (N:=3) rfl ?_);refine Yz ?hg (N:=3) ?hd (cs:= #[.int .i64 Zg, .bool false]) (t:=38) ?hr ?_;(case hd=>rfl);(case hg=>rfl);(case hr=>first|(go_simp;done)|(go_simp;rfl));intro Xr hg w14 Zf hb;have n0_:=Ya (Yn (g:=Jv) (o:= .cells #[.int .i64 Zc, .bool Zb, .slice Ze Za.length Zd] 24 (0,0)) (by(with_reducible repeat(first|refine Yl ?_ _|refine Ym ?_|refine Yj ?_ _));exact Jd.out) hb);have n1_:=Ya (Yk (by repeat(first|(with_reducible first|exact HB.out|apply Ye|apply Yd|apply Yg|refine Yh ?_ GE115.out)|exact HB.out)) hb);have n2_:=Ya (Zf);have n3_:=Ya ((by rw[hg];exact(Yi (by repeat(first|(with_reducible first|exact HB.out|apply Ye|apply Yd|apply Yg|refine Yh ?_ GE115.out)|exact HB.out))):w.heap.size≤Xr));have n4_:=Ya ((by rw[hg];exact(Yi (by repeat(first|(with_reducible first|exact HB.out|apply Ye|apply Yd|apply Yg|refine Yh ?_ GE115.out)|exact HB.out))):w.heap.size≤Xr));have n5_:=Ya ((by rw[hg];exact Nat.ne_of_lt (blk_lt (g:=Jv) (o:= .cells #[.int .i64 Zc, .bool Zb, .slice Ze Za.length Zd] 24 (0,0)) (by(with_reducible repeat(first|refine Yl ?_ _|refine Ym ?_|refine Yj ?_ _));exact Jd.out)):Jv≠Xr));have n6_:=Ya ((by rw[hg];exact Nat.ne_of_gt (blk_lt (g:=Jv) (o:= .cells #[.int .i64 Zc, .bool Zb, .slice Ze Za.length Zd] 24 (0,0)) (by(with_reducible repeat(first|refine Yl ?_ _|refine Ym ?_|refine Yj ?_ _));exact Jd.out)):Xr≠Jv));clear Jd;clear HB;have Jd:=n0_;have HB:=n1_;have Xt:=n2_;have GW116:=n3_;have GE116:=n4_;have NB115_116:=n5_;have NB116_115:=n6_;clear n0_ n1_ n2_ n3_ n4_ n5_ n6_;clear hb Zf hg;have hnb15:=NB116_115.out;have hnc15:=NB115_116.out;have hcz16_0:w14.cell? ⟨Xr,0,none⟩=some (.int .i64 Zg):=(Yc Xt.out 0).trans rfl;have hcz16_1:w14.cell? ⟨Xr,1,none⟩=some (.bool false):=(Yc Xt.out 1).trans rfl;have hfz16_0:=Yf Xt.out 0;have hfz16_1:=Yf Xt.out 1;have Uk:w14.cell? ⟨Jv,0,none⟩=some (.int .i64 Zc):=(Yc Jd.out 0).trans rfl;have Ul:w14.cell? ⟨Jv,1,none⟩=some (.bool Zb):=(Yc Jd.out 1).trans rfl;have hcz17_2:w14.cell? ⟨Jv,2,none⟩=some (.slice Ze Za.length Zd):=(Yc Jd.out 2).trans rfl;have Um:=Yf Jd.out 0;have Un:=Yf Jd.out 1;have hfz17_2:=Yf Jd.out 2;have p118:0≤(Zg:Int):=Yu (by first|(with_reducible assumption)|assumption);have q118:Zg<(Za.length:Int):=Yu (by first|(with_reducible assumption)|assumption);obtain⟨ad118,e118,hx118_0,hx118_1,hx118_2,hx118_3⟩:=at_T74 Zl.out Zg p118 q118;cases e118;replace hx118_0:=(HB.out.cell (Yb w _ hx118_0)).trans hx118_0;replace hx118_1:=(HB.out.cell (Yb w _ hx118_1)).trans hx118_1;replace hx118_2:=(HB.out.cell (Yb w _ hx118_2)).trans hx118_2;replace hx118_3:=(HB.out.cell (Yb w _ hx118_3)).trans hx118_3;replace p118:=eq_true p118;replace q118:=eq_true q118));go_ret;exact⟨by first|rfl|(simp[errW_none,errW_some]<;>rfl)|(simp[*,errW_none,errW_some]<;>rfl),by repeat(first|(with_reducible first|exact HB.out|apply Ye|apply Yd|apply Yg|refine Yh ?_ GE115.out|refine Yh ?_ GE116.out)|exact HB.out)⟩
end P
namespace P
attribute [local go_sem] max2_int min2_int max_two min_two max_three min_three max_four min_four
def ebbtideref07_To.f (Zc:Int) (Zb:Bool) (Za:List (S74)) (Zg:Int) (Xd:Bool):Option (Int):=if Xd=true then(if 0≤Zg then(if Zg<(Za.length:Int) then(some ((rd_T74 Za Zg).f0)) else(none)) else(none)) else(if 0≤Zg then(if Zg<(Za.length:Int) then(some ((rd_T74 Za Zg).f1)) else(none)) else(none))
set_option maxHeartbeats 8000000 in
set_option maxRecDepth 100000 in
theorem ebbtideref07_To.calls (Zc:Int) (Zb:Bool) (Ze:Option Addr) (Zd:Nat) (Za:List (S74)) (Zg:Int) (Xd:Bool) (r:Int) (w:World) (Zr:Kd.C k74 w Ze Za.length Za) (Zs:Za.length≤Zd) (h:ebbtideref07_To.f Zc Zb Za Zg Xd=some r):
  Calls Try.prog 45 #[.agg #[.int .i64 Zc, .bool Zb, .slice Ze Za.length Zd], .agg #[.int .i64 Zg, .bool Xd]] w fun e w'=>e= .returned (.int .i64 r)∧Below w.heap.size w w':=by
 have hu24:=Try.underlying24;have hu38:=Try.underlying38;have Zl:=Ya Zr;have Zv:=Ya Zs;clear Zr Zs;have HB:=Ya (Yo w.heap.size w);have H:(if Xd=true then(if 0≤Zg then(if Zg<(Za.length:Int) then(some ((rd_T74 Za Zg).f0)) else(none)) else(none)) else(if 0≤Zg then(if Zg<(Za.length:Int) then(some ((rd_T74 Za Zg).f1)) else(none)) else(none)))=some r:=h;clear h;by_cases c3:Xd=true
 ·subst c3
  have H1:(if 0≤Zg then(if Zg<(Za.length:Int) then(some ((rd_T74 Za Zg).f0)) else(none)) else(none))=some r:=by first|(rw[Yx rfl] at H;exact H)|(rw[Yx trivial] at H;exact H)
  clear H;have H:=H1;clear H1;by_cases c4:0≤Zg
  rotate_left
  ·rw[Yy c4] at H
   exact absurd H (by simp)
  rw[Yx c4] at H;have c4b0:decide (0≤Zg)=true:=Yv c4;clear c4;by_cases c5:Zg<(Za.length:Int)
  rotate_left
  ·rw[Yy c5] at H
   exact absurd H (by simp)
  rw[Yx c5] at H;have c5b0:decide (Zg<(Za.length:Int))=true:=Yv c5;clear c5;obtain rfl:=Option.some.inj H;go_enter Try.func45,Try.ntmps45;go_wp2_with (first|((with_reducible refine gate_dst (N:=2) rfl ?_);refine Yz ?hg (N:=2) ?hd (cs:= #[.int .i64 Zc, .bool Zb, .slice Ze Za.length Zd]) (t:=24) ?hr ?_;(case hd=>rfl);(case hg=>rfl);(case hr=>first|(go_simp;done)|(go_simp;rfl));intro Jw hg w6 Zf hb;have n0_:=Ya (Yk (by repeat(first|(with_reducible first|exact HB.out|apply Ye|apply Yd|apply Yg)|exact HB.out)) hb);have n1_:=Ya (Zf);have n2_:=Ya ((by rw[hg];exact(Yi (by repeat(first|(with_reducible first|exact HB.out|apply Ye|apply Yd|apply Yg)|exact HB.out))):w.heap.size≤Jw));have n3_:=Ya ((by rw[hg];exact(Yi (by repeat(first|(with_reducible first|exact HB.out|apply Ye|apply Yd|apply Yg)|exact HB.out))):w.heap.size≤Jw));clear HB;have HB:=n0_;have Je:=n1_;have GW119:=n2_;have GE119:=n3_;clear n0_ n1_ n2_ n3_;clear hb Zf hg)|((with_reducible refine gate_dst (N:=3) rfl ?_);refine Yz ?hg (N:=3) ?hd (cs:= #[.int .i64 Zg, .bool true]) (t:=38) ?hr ?_;(case hd=>rfl);(case hg=>rfl);(case hr=>first|(go_simp;done)|(go_simp;rfl));intro gb120 hg w7 Zf hb;have n0_:=Ya (Yn (g:=Jw) (o:= .cells #[.int .i64 Zc, .bool Zb, .slice Ze Za.length Zd] 24 (0,0)) (by(with_reducible repeat(first|refine Yl ?_ _|refine Ym ?_|refine Yj ?_ _));exact Je.out) hb);have n1_:=Ya (Yk (by repeat(first|(with_reducible first|exact HB.out|apply Ye|apply Yd|apply Yg|refine Yh ?_ GE119.out)|exact HB.out)) hb);have n2_:=Ya (Zf);have n3_:=Ya ((by rw[hg];exact(Yi (by repeat(first|(with_reducible first|exact HB.out|apply Ye|apply Yd|apply Yg|refine Yh ?_ GE119.out)|exact HB.out))):w.heap.size≤gb120));have n4_:=Ya ((by rw[hg];exact(Yi (by repeat(first|(with_reducible first|exact HB.out|apply Ye|apply Yd|apply Yg|refine Yh ?_ GE119.out)|exact HB.out))):w.heap.size≤gb120));have n5_:=Ya ((by rw[hg];exact Nat.ne_of_lt (blk_lt (g:=Jw) (o:= .cells #[.int .i64 Zc, .bool Zb, .slice Ze Za.length Zd] 24 (0,0)) (by(with_reducible repeat(first|refine Yl ?_ _|refine Ym ?_|refine Yj ?_ _));exact Je.out)):Jw≠gb120));have n6_:=Ya ((by rw[hg];exact Nat.ne_of_gt (blk_lt (g:=Jw) (o:= .cells #[.int .i64 Zc, .bool Zb, .slice Ze Za.length Zd] 24 (0,0)) (by(with_reducible repeat(first|refine Yl ?_ _|refine Ym ?_|refine Yj ?_ _));exact Je.out)):gb120≠Jw));clear Je;clear HB;have Je:=n0_;have HB:=n1_;have BK120:=n2_;have GW120:=n3_;have GE120:=n4_;have NB119_120:=n5_;have NB120_119:=n6_;clear n0_ n1_ n2_ n3_ n4_ n5_ n6_;clear hb Zf hg;have hnb8:=NB120_119.out;have hnc8:=NB119_120.out;have hcz9_0:w7.cell? ⟨gb120,0,none⟩=some (.int .i64 Zg):=(Yc BK120.out 0).trans rfl;have hcz9_1:w7.cell? ⟨gb120,1,none⟩=some (.bool true):=(Yc BK120.out 1).trans rfl;have hfz9_0:=Yf BK120.out 0;have hfz9_1:=Yf BK120.out 1;have Vs:w7.cell? ⟨Jw,0,none⟩=some (.int .i64 Zc):=(Yc Je.out 0).trans rfl;have Vt:w7.cell? ⟨Jw,1,none⟩=some (.bool Zb):=(Yc Je.out 1).trans rfl;have Jq:w7.cell? ⟨Jw,2,none⟩=some (.slice Ze Za.length Zd):=(Yc Je.out 2).trans rfl;have Vu:=Yf Je.out 0;have Vv:=Yf Je.out 1;have Jr:=Yf Je.out 2;have p121:0≤(Zg:Int):=Yu (by first|(with_reducible assumption)|assumption);have q121:Zg<(Za.length:Int):=Yu (by first|(with_reducible assumption)|assumption);obtain⟨ad121,e121,hx121_0,hx121_1,hx121_2,hx121_3⟩:=at_T74 Zl.out Zg p121 q121;cases e121;replace hx121_0:=(HB.out.cell (Yb w _ hx121_0)).trans hx121_0;replace hx121_1:=(HB.out.cell (Yb w _ hx121_1)).trans hx121_1;replace hx121_2:=(HB.out.cell (Yb w _ hx121_2)).trans hx121_2;replace hx121_3:=(HB.out.cell (Yb w _ hx121_3)).trans hx121_3;replace p121:=eq_true p121;replace q121:=eq_true q121));go_ret;exact⟨by first|rfl|(simp[errW_none,errW_some]<;>rfl)|(simp[*,errW_none,errW_some]<;>rfl),by repeat(first|(with_reducible first|exact HB.out|apply Ye|apply Yd|apply Yg|refine Yh ?_ GE119.out|refine Yh ?_ GE120.out)|exact HB.out)⟩
 replace c3:=Bool.eq_false_iff.mpr c3;subst c3;have H1:(if 0≤Zg then(if Zg<(Za.length:Int) then(some ((rd_T74 Za Zg).f1)) else(none)) else(none))=some r:=by rw[Yy (show ¬ (false=true) by decide)] at H;exact H
 clear H;have H:=H1;clear H1;by_cases c11:0≤Zg
 rotate_left
 ·rw[Yy c11] at H
  exact absurd H (by simp)
 rw[Yx c11] at H;have c11b0:decide (0≤Zg)=true:=Yv c11;clear c11;by_cases c12:Zg<(Za.length:Int)
 rotate_left
 ·rw[Yy c12] at H
  exact absurd H (by simp)
 rw[Yx c12] at H;have c12b0:decide (Zg<(Za.length:Int))=true:=Yv c12;clear c12;obtain rfl:=Option.some.inj H;go_enter Try.func45,Try.ntmps45;go_wp2_with (first|((with_reducible refine gate_dst (N:=2) rfl ?_);refine Yz ?hg (N:=2) ?hd (cs:= #[.int .i64 Zc, .bool Zb, .slice Ze Za.length Zd]) (t:=24) ?hr ?_;(case hd=>rfl);(case hg=>rfl);(case hr=>first|(go_simp;done)|(go_simp;rfl));intro Jw hg w13 Zf hb;have n0_:=Ya (Yk (by repeat(first|(with_reducible first|exact HB.out|apply Ye|apply Yd|apply Yg)|exact HB.out)) hb);have n1_:=Ya (Zf);have n2_:=Ya ((by rw[hg];exact(Yi (by repeat(first|(with_reducible first|exact HB.out|apply Ye|apply Yd|apply Yg)|exact HB.out))):w.heap.size≤Jw));have n3_:=Ya ((by rw[hg];exact(Yi (by repeat(first|(with_reducible first|exact HB.out|apply Ye|apply Yd|apply Yg)|exact HB.out))):w.heap.size≤Jw));clear HB;have HB:=n0_;have Je:=n1_;have GW119:=n2_;have GE119:=n3_;clear n0_ n1_ n2_ n3_;clear hb Zf hg)|((with_reducible refine gate_dst (N:=3) rfl ?_);refine Yz ?hg (N:=3) ?hd (cs:= #[.int .i64 Zg, .bool false]) (t:=38) ?hr ?_;(case hd=>rfl);(case hg=>rfl);(case hr=>first|(go_simp;done)|(go_simp;rfl));intro gb120 hg w14 Zf hb;have n0_:=Ya (Yn (g:=Jw) (o:= .cells #[.int .i64 Zc, .bool Zb, .slice Ze Za.length Zd] 24 (0,0)) (by(with_reducible repeat(first|refine Yl ?_ _|refine Ym ?_|refine Yj ?_ _));exact Je.out) hb);have n1_:=Ya (Yk (by repeat(first|(with_reducible first|exact HB.out|apply Ye|apply Yd|apply Yg|refine Yh ?_ GE119.out)|exact HB.out)) hb);have n2_:=Ya (Zf);have n3_:=Ya ((by rw[hg];exact(Yi (by repeat(first|(with_reducible first|exact HB.out|apply Ye|apply Yd|apply Yg|refine Yh ?_ GE119.out)|exact HB.out))):w.heap.size≤gb120));have n4_:=Ya ((by rw[hg];exact(Yi (by repeat(first|(with_reducible first|exact HB.out|apply Ye|apply Yd|apply Yg|refine Yh ?_ GE119.out)|exact HB.out))):w.heap.size≤gb120));have n5_:=Ya ((by rw[hg];exact Nat.ne_of_lt (blk_lt (g:=Jw) (o:= .cells #[.int .i64 Zc, .bool Zb, .slice Ze Za.length Zd] 24 (0,0)) (by(with_reducible repeat(first|refine Yl ?_ _|refine Ym ?_|refine Yj ?_ _));exact Je.out)):Jw≠gb120));have n6_:=Ya ((by rw[hg];exact Nat.ne_of_gt (blk_lt (g:=Jw) (o:= .cells #[.int .i64 Zc, .bool Zb, .slice Ze Za.length Zd] 24 (0,0)) (by(with_reducible repeat(first|refine Yl ?_ _|refine Ym ?_|refine Yj ?_ _));exact Je.out)):gb120≠Jw));clear Je;clear HB;have Je:=n0_;have HB:=n1_;have BK120:=n2_;have GW120:=n3_;have GE120:=n4_;have NB119_120:=n5_;have NB120_119:=n6_;clear n0_ n1_ n2_ n3_ n4_ n5_ n6_;clear hb Zf hg;have hnb15:=NB120_119.out;have hnc15:=NB119_120.out;have hcz16_0:w14.cell? ⟨gb120,0,none⟩=some (.int .i64 Zg):=(Yc BK120.out 0).trans rfl;have hcz16_1:w14.cell? ⟨gb120,1,none⟩=some (.bool false):=(Yc BK120.out 1).trans rfl;have hfz16_0:=Yf BK120.out 0;have hfz16_1:=Yf BK120.out 1;have Uk:w14.cell? ⟨Jw,0,none⟩=some (.int .i64 Zc):=(Yc Je.out 0).trans rfl;have Ul:w14.cell? ⟨Jw,1,none⟩=some (.bool Zb):=(Yc Je.out 1).trans rfl;have hcz17_2:w14.cell? ⟨Jw,2,none⟩=some (.slice Ze Za.length Zd):=(Yc Je.out 2).trans rfl;have Um:=Yf Je.out 0;have Un:=Yf Je.out 1;have hfz17_2:=Yf Je.out 2;have p122:0≤(Zg:Int):=Yu (by first|(with_reducible assumption)|assumption);have q122:Zg<(Za.length:Int):=Yu (by first|(with_reducible assumption)|assumption);obtain⟨ad122,e122,hx122_0,hx122_1,hx122_2,hx122_3⟩:=at_T74 Zl.out Zg p122 q122;cases e122;replace hx122_0:=(HB.out.cell (Yb w _ hx122_0)).trans hx122_0;replace hx122_1:=(HB.out.cell (Yb w _ hx122_1)).trans hx122_1;replace hx122_2:=(HB.out.cell (Yb w _ hx122_2)).trans hx122_2;replace hx122_3:=(HB.out.cell (Yb w _ hx122_3)).trans hx122_3;replace p122:=eq_true p122;replace q122:=eq_true q122));go_ret;exact⟨by first|rfl|(simp[errW_none,errW_some]<;>rfl)|(simp[*,errW_none,errW_some]<;>rfl),by repeat(first|(with_reducible first|exact HB.out|apply Ye|apply Yd|apply Yg|refine Yh ?_ GE119.out|refine Yh ?_ GE120.out)|exact HB.out)⟩
end P
namespace Q
theorem Ev.pos {α:Type} {c:Prop} [Decidable c] {f g:Nat→Option α} {r:α} (h:c) (e:Ev f r):Ev (fun k=>if c then f k else g k) r:=
 Ev.congr (fun _=>Yx h) e
theorem Ev.neg {α:Type} {c:Prop} [Decidable c] {f g:Nat→Option α} {r:α} (h: ¬ c) (e:Ev g r):Ev (fun k=>if c then f k else g k) r:=
 Ev.congr (fun _=>Yy h) e
theorem Ev.ite {α:Type} {c:Prop} [Decidable c] {f g:Nat→Option α} {r:α} (e:c→Ev f r) (e': ¬ c→Ev g r):Ev (fun k=>if c then f k else g k) r:=by
 by_cases h:c
 ·exact Ev.pos h (e h)
 ·exact Ev.neg h (e' h)
theorem Ev.succ {α:Type} {g:Nat→Option α} {r:α} (e:Ev (fun k=>g (k+1)) r):Ev g r:=Ev.step (fun _=>rfl) e
theorem Ev.let_ {α β:Type} {a:α} {f:Nat→α→Option β} {r:β} (e:Ev (fun k=>f k a) r):Ev (fun k=>(some a).bind (f k)) r:=e
theorem Ev.call {α β:Type} {g:Option α} {a:α} {f:Nat→α→Option β} {r:β} (h:g=some a) (e:Ev (fun k=>f k a) r):Ev (fun k=>g.bind (f k)) r:=by
 subst h;exact e
theorem Ev.done {α:Type} {a r:α} (h:a=r):Ev (fun _=>some a) r:=h▸Ev.now a
theorem Ev.eq {α:Type} {g:Nat→Option α} {a r:α} (h:Ev g a) (e:a=r):Ev g r:=e▸h
theorem wrap_id {x:Int} (h0: -9223372036854775808≤x) (h1:x≤9223372036854775807):wrap64 x=x:=by
 unfold wrap64;omega
theorem wrap_succ {i n:Nat} (h:i<n) (hn:n≤9223372036854775807):wrap64 ((i:Int)+1)=((i+1:Nat):Int):=by
 unfold wrap64;omega
theorem drop_getD {α:Type} (l:List α) (i:Nat) (d:α) (h:i<l.length):l.drop i=l.getD i d::l.drop (i+1):=by
 rw[List.drop_eq_getElem_cons h,List.getD_eq_getElem?_getD,List.getElem?_eq_getElem h];rfl
theorem rd_nat (xs:List Int) (i:Nat):rd xs (i:Int)=xs.getD i 0:=by
 unfold rd;rw[Int.toNat_natCast]
theorem getD_mem {α:Type} {l:List α} {i:Nat} {d:α} (h:i<l.length):l.getD i d∈l:=by
 rw[List.getD_eq_getElem?_getD,List.getElem?_eq_getElem h];exact List.getElem_mem h
theorem getD_set {α:Type} (l:List α) (i j:Nat) (a d:α) (h:i<l.length):(l.set i a).getD j d=if i=j then a else l.getD j d:=by
 rw[List.getD_eq_getElem?_getD,List.getD_eq_getElem?_getD,List.getElem?_set];by_cases e:i=j
 ·subst e;simp[h]
 ·simp[e]
theorem rd_set (l:List Int) (i j a:Int) (h0:0≤i) (h1:i<l.length) (h2:0≤j):rd (l.set i.toNat a) j=if i=j then a else rd l j:=by
 unfold rd;rw[getD_set _ _ _ _ _ (by omega)];by_cases e:i=j
 ·rw[Yx e,Yx (by omega)]
 ·rw[Yy e,Yy (by omega)]
end Q
namespace H
open P Q
def stepsR (l:List S74) (F:List Int):Nat→List S38
 |0=>[]
 |k+1=>stepsR l F k ++ (if F.getD k 0<(rd_T74 l k).f2 then [⟨k,false⟩] else []) ++ (if 0<F.getD k 0 then [⟨k,true⟩] else [])
theorem stepsR_len (l:List S74) (F:List Int) (k:Nat):(stepsR l F k).length≤2 * k:=by
 induction k with
 |zero=>exact Nat.le_refl _
 |succ k ih=>
  unfold stepsR;rw[List.length_append,List.length_append];split<;>split<;>simp<;>omega
theorem mem_stepsR (l:List S74) (F:List Int) (k:Nat) (s:S38):s∈stepsR l F k↔(∃ i:Nat,i<k∧s.f0=i)∧0<stRoom l F s:=by
 induction k with
 |zero=>
  constructor
  ·intro h;cases h
  ·rintro⟨⟨i,h,_⟩,_⟩;omega
 |succ k ih=>
  unfold stepsR;rw[List.mem_append,List.mem_append,ih];constructor
  ·rintro((⟨⟨i,h1,h2⟩,h3⟩|h)|h)
   ·exact⟨⟨i,by omega,h2⟩,h3⟩
   ·split at h
    ·rename_i he
     rw[List.mem_singleton] at h;subst h;refine⟨⟨k,by omega,rfl⟩,?_⟩;unfold stRoom;simp only[Bool.false_eq_true,if_false,Int.toNat_natCast];omega
    ·cases h
   ·split at h
    ·rename_i he
     rw[List.mem_singleton] at h;subst h;refine⟨⟨k,by omega,rfl⟩,?_⟩;unfold stRoom;simp only[if_true,Int.toNat_natCast];exact he
    ·cases h
  ·rintro⟨⟨i,h1,h2⟩,h3⟩
   by_cases hi:i<k
   ·exact Or.inl (Or.inl ⟨⟨i,hi,h2⟩,h3⟩)
   ·have e:i=k:=by omega
    subst e;obtain⟨x,y⟩:=s;simp only at h2;subst h2;unfold stRoom at h3;cases y
    ·simp only[Bool.false_eq_true,if_false,Int.toNat_natCast] at h3
     exact Or.inl (Or.inr (by rw[Yx (by omega)];exact List.mem_singleton.2 rfl))
    ·simp only[if_true,Int.toNat_natCast] at h3
     exact Or.inr (by rw[Yx h3];exact List.mem_singleton.2 rfl)
theorem steps_l0 {l:List S74} {F:List Int} {n:Nat} (hr:Right l F n) (a:Int) (b:Bool) (d:Nat): ∀ i:Nat,i+d=F.length→
  Ev (fun k=>ebbtideref07_Steps.l0 k F (stepsR l F i) (i:Int) a b l) (stepsR l F F.length):=by
 have hl:=hr.len;have hl2:=hr.arcs
 induction d with
 |zero=>
  intro i hi;refine Ev.succ ?_;simp only[ebbtideref07_Steps.l0];repeat(first|exact Ev.now _|with_reducible refine Ev.pos (by first|assumption|omega) ?_|with_reducible refine Ev.neg (by first|assumption|omega) ?_|with_reducible refine Ev.let_ ?_)
  exact Ev.done (by rw[show i=F.length by omega])
 |succ d ih=>
  intro i hi;have hn:=ih (i+1) (by omega);have hsl:=stepsR_len l F i;have e1:rd F (i:Int)=F.getD i 0:=rd_nat F i;have e2:stepsR l F (i+1)=stepsR l F i ++ (if F.getD i 0<(rd_T74 l i).f2 then [⟨i,false⟩] else []) ++ (if 0<F.getD i 0 then [⟨i,true⟩] else []):=rfl;rw[e2] at hn;refine Ev.succ ?_;simp only[ebbtideref07_Steps.l0];repeat(first|exact Ev.now _|with_reducible refine Ev.pos (by first|assumption|omega) ?_|with_reducible refine Ev.neg (by first|assumption|omega) ?_|with_reducible refine Ev.let_ ?_)
  rw[wrap_succ (n:=F.length) (by omega) (by omega),e1];refine Ev.ite (fun g=> ?_) (fun g=> ?_)
  ·rw[Yx (show F.getD i 0<(rd_T74 l i).f2 from g)] at hn
   repeat(first|exact Ev.now _|with_reducible refine Ev.pos (by first|assumption|omega) ?_|with_reducible refine Ev.neg (by first|assumption|omega) ?_|with_reducible refine Ev.let_ ?_)
   refine Ev.ite (fun g2=> ?_) (fun g2=> ?_)
   ·rw[Yx (show 0<F.getD i 0 from g2)] at hn
    refine Ev.pos (by rw[List.length_append];simp;omega) ?_;exact hn
   ·rw[Yy (show ¬ 0<F.getD i 0 from g2),List.append_nil] at hn
    exact hn
  ·rw[Yy (show ¬ F.getD i 0<(rd_T74 l i).f2 from g),List.append_nil] at hn
   refine Ev.ite (fun g2=> ?_) (fun g2=> ?_)
   ·rw[Yx (show 0<F.getD i 0 from g2)] at hn
    refine Ev.pos (by omega) ?_;exact hn
   ·rw[Yy (show ¬ 0<F.getD i 0 from g2),List.append_nil] at hn
    exact hn
theorem steps_ev {l:List S74} {F:List Int} {n:Nat} (hr:Right l F n) (a:Int) (b:Bool):Ev (fun k=>ebbtideref07_Steps.f k a b l F) (stepsR l F F.length):=by
 unfold ebbtideref07_Steps.f;exact steps_l0 hr a b F.length 0 (by omega)
theorem stFrom_in {l:List S74} {F:List Int} {n:Nat} (hr:Right l F n) {s:S38} (hs:StepOf l s):0≤stFrom l s∧stFrom l s<n:=by
 obtain⟨i,h1,h2⟩:=hs;have:=hr.ends i h1;unfold stFrom;rw[h2];split
 ·exact this.2
 ·exact this.1
theorem stepsR_of {l:List S74} {F:List Int} {n:Nat} (hr:Right l F n): ∀ s,s∈stepsR l F F.length→StepOf l s:=by
 intro s hs;have h:=((mem_stepsR l F F.length s).1 hs).1;rw[hr.len] at h;exact h
end H
namespace P
attribute [local go_sem] max2_int min2_int max_two min_two max_three min_three max_four min_four
def ebbtideref05_nodes.f (a0:Int):Option (Int):=if a0<1 then(some 51) else(if a0>50 then(some 2) else(some 0))
set_option maxHeartbeats 8000000 in
set_option maxRecDepth 100000 in
theorem ebbtideref05_nodes.calls (a0:Int) (r:Int) (w:World) (h:ebbtideref05_nodes.f a0=some r):
  Calls Try.prog 122 #[.int .i64 a0] w fun e w'=>e= .returned (.int .i64 r)∧Drawn0 w w':=by
 have H:(if a0<1 then(some 51) else(if a0>50 then(some 2) else(some 0)))=some r:=h;clear h;by_cases c2:a0<1
 ·rw[Yx c2] at H
  have c2b0:decide (a0<1)=true:=Yv c2;clear c2;obtain rfl:=Option.some.inj H;go_enter Try.func122,Try.ntmps122;go_wp2;go_ret;exact⟨by first|rfl|(simp;done)|(simp[*];done),by repeat(first|exact Drawn0.refl _|apply Drawn0.step)⟩
 rw[Yy c2] at H;have c2b0:decide (a0<1)=false:=Yw c2;clear c2;by_cases c3:a0>50
 rotate_left
 ·rw[Yy c3] at H
  have c3b0:decide (50<a0)=false:=Yw c3;clear c3;obtain rfl:=Option.some.inj H;go_enter Try.func122,Try.ntmps122;go_wp2;go_ret;exact⟨by first|rfl|(simp;done)|(simp[*];done),by repeat(first|exact Drawn0.refl _|apply Drawn0.step)⟩
 rw[Yx c3] at H;have c3b0:decide (50<a0)=true:=Yv c3;clear c3;obtain rfl:=Option.some.inj H;go_enter Try.func122,Try.ntmps122;go_wp2;go_ret;exact⟨by first|rfl|(simp;done)|(simp[*];done),by repeat(first|exact Drawn0.refl _|apply Drawn0.step)⟩
end P
namespace P
attribute [local go_sem] max2_int min2_int max_two min_two max_three min_three max_four min_four
def ebbtideref05_Arc.j0:Nat→Bool→Int→Int→Int→Int→Option (Int)
 |0,_,_,_,_,_=>none
 |k+1,x34,x155000,x155001,x155002,x155003=>if x34=true then(some 51) else(if x155002>1048576 then(some 2) else(if x155003>1048576 then(some 2) else(some 0)))
def ebbtideref05_Arc.f (k:Nat) (a0:Int) (Zg:Int) (Xd:Int) (Wa:Int) (Wb:Int):Option (Int):=if Zg<0 then(ebbtideref05_Arc.j0 k true Zg Xd Wa Wb) else(if Zg≥a0 then(ebbtideref05_Arc.j0 k true Zg Xd Wa Wb) else(if Xd<0 then(ebbtideref05_Arc.j0 k true Zg Xd Wa Wb) else(if Xd≥a0 then(ebbtideref05_Arc.j0 k true Zg Xd Wa Wb) else(if Wa<0 then(ebbtideref05_Arc.j0 k true Zg Xd Wa Wb) else(ebbtideref05_Arc.j0 k (decide (Wb<0)) Zg Xd Wa Wb)))))
set_option maxHeartbeats 8000000 in
set_option maxRecDepth 100000 in
theorem ebbtideref05_Arc.calls (k:Nat) (a0:Int) (Zg:Int) (Xd:Int) (Wa:Int) (Wb:Int) (r:Int) (w:World) (h:ebbtideref05_Arc.f k a0 Zg Xd Wa Wb=some r):
  Calls Try.prog 123 #[.int .i64 a0, .agg #[.int .i64 Zg, .int .i64 Xd, .int .i64 Wa, .int .i64 Wb]] w fun e w'=>e= .returned (.int .i64 r)∧Below w.heap.size w w':=by
 have hu74:=Try.underlying74;have HB:=Ya (Yo w.heap.size w);have H:(if Zg<0 then(ebbtideref05_Arc.j0 k true Zg Xd Wa Wb) else(if Zg≥a0 then(ebbtideref05_Arc.j0 k true Zg Xd Wa Wb) else(if Xd<0 then(ebbtideref05_Arc.j0 k true Zg Xd Wa Wb) else(if Xd≥a0 then(ebbtideref05_Arc.j0 k true Zg Xd Wa Wb) else(if Wa<0 then(ebbtideref05_Arc.j0 k true Zg Xd Wa Wb) else(ebbtideref05_Arc.j0 k (decide (Wb<0)) Zg Xd Wa Wb))))))=some r:=h;clear h;have HC3:=Ya H;clear H;go_enter Try.func123,Try.ntmps123;go_upto_region 1 with (first|((with_reducible refine gate_dst (N:=3) rfl ?_);refine Yz ?hg (N:=3) ?hd (cs:= #[.int .i64 Zg, .int .i64 Xd, .int .i64 Wa, .int .i64 Wb]) (t:=74) ?hr ?_;(case hd=>rfl);(case hg=>rfl);(case hr=>first|(go_simp;done)|(go_simp;rfl));intro Wk hg w4 Zf hb;have n0_:=Ya (Yk (by repeat(first|(with_reducible first|exact HB.out|apply Ye|apply Yd|apply Yg)|exact HB.out)) hb);have n1_:=Ya (Zf);have n2_:=Ya ((by rw[hg];exact(Yi (by repeat(first|(with_reducible first|exact HB.out|apply Ye|apply Yd|apply Yg)|exact HB.out))):w.heap.size≤Wk));have n3_:=Ya ((by rw[hg];exact(Yi (by repeat(first|(with_reducible first|exact HB.out|apply Ye|apply Yd|apply Yg)|exact HB.out))):w.heap.size≤Wk));clear HB;have HB:=n0_;have Xc:=n1_;have GW154:=n2_;have GE154:=n3_;clear n0_ n1_ n2_ n3_;clear hb Zf hg))
 (try simp only[Act.put,List.setIfInBounds_toArray,List.set_cons_zero,List.set_cons_succ])
 go_cut [34] (fun v34 wc=> ∃ (kq:Nat) (x34_2:Bool),v34= .bool x34_2∧Aside0 (ebbtideref05_Arc.j0 kq x34_2 Zg Xd Wa Wb=some r)∧Aside0 (kq≤k)∧Aside0 (wc.heap[Wk]? =some (.cells #[.int .i64 Zg, .int .i64 Xd, .int .i64 Wa, .int .i64 Wb] 74 (0,0)))∧Aside0 (Below w.heap.size w wc))
 case first=>
  have H:=HC3.out;clear HC3;by_cases c5:Zg<0
  ·rw[Yx c5] at H
   have c5b0:decide (Zg<0)=true:=Yv c5;clear c5
   (first|rw[c5b0]|(simp only[i64_w,i32_w];rw[c5b0])|skip)
   have H':=Ya H;clear H;have hcz6_0:w4.cell? ⟨Wk,0,none⟩=some (.int .i64 Zg):=(Yc Xc.out 0).trans rfl;have hcz6_1:w4.cell? ⟨Wk,1,none⟩=some (.int .i64 Xd):=(Yc Xc.out 1).trans rfl;have hcz6_2:w4.cell? ⟨Wk,2,none⟩=some (.int .i64 Wa):=(Yc Xc.out 2).trans rfl;have hcz6_3:w4.cell? ⟨Wk,3,none⟩=some (.int .i64 Wb):=(Yc Xc.out 3).trans rfl;have hfz6_0:=Yf Xc.out 0;have hfz6_1:=Yf Xc.out 1;have hfz6_2:=Yf Xc.out 2;have hfz6_3:=Yf Xc.out 3;go_wp2;go_meet
   case rel=>exact⟨_,(true),(by first|rfl|(simp;done)|(simp[*];done)),H',⟨by first|omega|exact Nat.le_refl _⟩,⟨by(with_reducible repeat(first|refine Yl ?_ _|refine Ym ?_|refine Yj ?_ _));exact Xc.out⟩,⟨by repeat(first|(with_reducible first|exact HB.out|apply Ye|apply Yd|apply Yg|refine Yh ?_ GE154.out)|exact HB.out)⟩⟩
  rw[Yy c5] at H;have c5b0:decide (Zg<0)=false:=Yw c5;clear c5
  (first|rw[c5b0]|(simp only[i64_w,i32_w];rw[c5b0])|skip)
  by_cases c7:Zg≥a0
  ·rw[Yx c7] at H
   have c7b0:decide (a0≤Zg)=true:=Yv c7;clear c7;have H':=Ya H;clear H;have hcz8_0:w4.cell? ⟨Wk,0,none⟩=some (.int .i64 Zg):=(Yc Xc.out 0).trans rfl;have hcz8_1:w4.cell? ⟨Wk,1,none⟩=some (.int .i64 Xd):=(Yc Xc.out 1).trans rfl;have hcz8_2:w4.cell? ⟨Wk,2,none⟩=some (.int .i64 Wa):=(Yc Xc.out 2).trans rfl;have hcz8_3:w4.cell? ⟨Wk,3,none⟩=some (.int .i64 Wb):=(Yc Xc.out 3).trans rfl;have hfz8_0:=Yf Xc.out 0;have hfz8_1:=Yf Xc.out 1;have hfz8_2:=Yf Xc.out 2;have hfz8_3:=Yf Xc.out 3;go_wp2;go_meet
   case rel=>exact⟨_,(true),(by first|rfl|(simp;done)|(simp[*];done)),H',⟨by first|omega|exact Nat.le_refl _⟩,⟨by(with_reducible repeat(first|refine Yl ?_ _|refine Ym ?_|refine Yj ?_ _));exact Xc.out⟩,⟨by repeat(first|(with_reducible first|exact HB.out|apply Ye|apply Yd|apply Yg|refine Yh ?_ GE154.out)|exact HB.out)⟩⟩
  rw[Yy c7] at H;have c7b0:decide (a0≤Zg)=false:=Yw c7;clear c7;by_cases c9:Xd<0
  ·rw[Yx c9] at H
   have c9b0:decide (Xd<0)=true:=Yv c9;clear c9;have H':=Ya H;clear H;have Vs:w4.cell? ⟨Wk,0,none⟩=some (.int .i64 Zg):=(Yc Xc.out 0).trans rfl;have Vt:w4.cell? ⟨Wk,1,none⟩=some (.int .i64 Xd):=(Yc Xc.out 1).trans rfl;have Jq:w4.cell? ⟨Wk,2,none⟩=some (.int .i64 Wa):=(Yc Xc.out 2).trans rfl;have hcz10_3:w4.cell? ⟨Wk,3,none⟩=some (.int .i64 Wb):=(Yc Xc.out 3).trans rfl;have Vu:=Yf Xc.out 0;have Vv:=Yf Xc.out 1;have Jr:=Yf Xc.out 2;have hfz10_3:=Yf Xc.out 3;go_wp2;go_meet
   case rel=>exact⟨_,(true),(by first|rfl|(simp;done)|(simp[*];done)),H',⟨by first|omega|exact Nat.le_refl _⟩,⟨by(with_reducible repeat(first|refine Yl ?_ _|refine Ym ?_|refine Yj ?_ _));exact Xc.out⟩,⟨by repeat(first|(with_reducible first|exact HB.out|apply Ye|apply Yd|apply Yg|refine Yh ?_ GE154.out)|exact HB.out)⟩⟩
  rw[Yy c9] at H;have c9b0:decide (Xd<0)=false:=Yw c9;clear c9;by_cases c11:Xd≥a0
  ·rw[Yx c11] at H
   have c11b0:decide (a0≤Xd)=true:=Yv c11;clear c11;have H':=Ya H;clear H;have hcz12_0:w4.cell? ⟨Wk,0,none⟩=some (.int .i64 Zg):=(Yc Xc.out 0).trans rfl;have hcz12_1:w4.cell? ⟨Wk,1,none⟩=some (.int .i64 Xd):=(Yc Xc.out 1).trans rfl;have hcz12_2:w4.cell? ⟨Wk,2,none⟩=some (.int .i64 Wa):=(Yc Xc.out 2).trans rfl;have hcz12_3:w4.cell? ⟨Wk,3,none⟩=some (.int .i64 Wb):=(Yc Xc.out 3).trans rfl;have hfz12_0:=Yf Xc.out 0;have hfz12_1:=Yf Xc.out 1;have hfz12_2:=Yf Xc.out 2;have hfz12_3:=Yf Xc.out 3;go_wp2;go_meet
   case rel=>exact⟨_,(true),(by first|rfl|(simp;done)|(simp[*];done)),H',⟨by first|omega|exact Nat.le_refl _⟩,⟨by(with_reducible repeat(first|refine Yl ?_ _|refine Ym ?_|refine Yj ?_ _));exact Xc.out⟩,⟨by repeat(first|(with_reducible first|exact HB.out|apply Ye|apply Yd|apply Yg|refine Yh ?_ GE154.out)|exact HB.out)⟩⟩
  rw[Yy c11] at H;have c11b0:decide (a0≤Xd)=false:=Yw c11;clear c11;by_cases c13:Wa<0
  rotate_left
  ·rw[Yy c13] at H
   have c13b0:decide (Wa<0)=false:=Yw c13;clear c13;have H':=Ya H;clear H;have hcz15_0:w4.cell? ⟨Wk,0,none⟩=some (.int .i64 Zg):=(Yc Xc.out 0).trans rfl;have hcz15_1:w4.cell? ⟨Wk,1,none⟩=some (.int .i64 Xd):=(Yc Xc.out 1).trans rfl;have hcz15_2:w4.cell? ⟨Wk,2,none⟩=some (.int .i64 Wa):=(Yc Xc.out 2).trans rfl;have hcz15_3:w4.cell? ⟨Wk,3,none⟩=some (.int .i64 Wb):=(Yc Xc.out 3).trans rfl;have hfz15_0:=Yf Xc.out 0;have hfz15_1:=Yf Xc.out 1;have hfz15_2:=Yf Xc.out 2;have hfz15_3:=Yf Xc.out 3;go_wp2;go_meet
   case rel=>exact⟨_,(decide (Wb<0)),(by first|rfl|(simp;done)|(simp[*];done)),H',⟨by first|omega|exact Nat.le_refl _⟩,⟨by(with_reducible repeat(first|refine Yl ?_ _|refine Ym ?_|refine Yj ?_ _));exact Xc.out⟩,⟨by repeat(first|(with_reducible first|exact HB.out|apply Ye|apply Yd|apply Yg|refine Yh ?_ GE154.out)|exact HB.out)⟩⟩
  rw[Yx c13] at H;have c13b0:decide (Wa<0)=true:=Yv c13;clear c13;have H':=Ya H;clear H;have Ug:w4.cell? ⟨Wk,0,none⟩=some (.int .i64 Zg):=(Yc Xc.out 0).trans rfl;have Uh:w4.cell? ⟨Wk,1,none⟩=some (.int .i64 Xd):=(Yc Xc.out 1).trans rfl;have Jz:w4.cell? ⟨Wk,2,none⟩=some (.int .i64 Wa):=(Yc Xc.out 2).trans rfl;have hcz14_3:w4.cell? ⟨Wk,3,none⟩=some (.int .i64 Wb):=(Yc Xc.out 3).trans rfl;have Ui:=Yf Xc.out 0;have Uj:=Yf Xc.out 1;have hfz14_2:=Yf Xc.out 2;have hfz14_3:=Yf Xc.out 3;go_wp2;go_meet
  case rel=>exact⟨_,(true),(by first|rfl|(simp;done)|(simp[*];done)),H',⟨by first|omega|exact Nat.le_refl _⟩,⟨by(with_reducible repeat(first|refine Yl ?_ _|refine Ym ?_|refine Yj ?_ _));exact Xc.out⟩,⟨by repeat(first|(with_reducible first|exact HB.out|apply Ye|apply Yd|apply Yg|refine Yh ?_ GE154.out)|exact HB.out)⟩⟩
 case rest=>
  clear HC3;try clear c1
  try clear p2
  try clear c5
  try clear c5b0
  try clear c7
  try clear c7b0
  try clear c9
  try clear c9b0
  try clear c11
  try clear c11b0
  try clear c12
  try clear c13
  try clear c13b0
  try clear Vs
  try clear Vt
  try clear Jq
  try clear hcz10_3
  try clear hcz12_0
  try clear hcz12_1
  try clear hcz12_2
  try clear hcz12_3
  try clear Ug
  try clear Uh
  try clear Jz
  try clear hcz14_3
  try clear hcz15_0
  try clear hcz15_1
  try clear hcz15_2
  try clear hcz15_3
  try clear hcz6_0
  try clear hcz6_1
  try clear hcz6_2
  try clear hcz6_3
  try clear hcz8_0
  try clear hcz8_1
  try clear hcz8_2
  try clear hcz8_3
  try clear Vu
  try clear Vv
  try clear Jr
  try clear hfz10_3
  try clear hfz12_0
  try clear hfz12_1
  try clear hfz12_2
  try clear hfz12_3
  try clear Ui
  try clear Uj
  try clear hfz14_2
  try clear hfz14_3
  try clear hfz15_0
  try clear hfz15_1
  try clear hfz15_2
  try clear hfz15_3
  try clear hfz6_0
  try clear hfz6_1
  try clear hfz6_2
  try clear hfz6_3
  try clear hfz8_0
  try clear hfz8_1
  try clear hfz8_2
  try clear hfz8_3
  obtain⟨kq,x34_2,rfl,HA,HJ2,Xc,HB⟩:=hcut;cases kq with
  |zero=>exact absurd HA.out (by simp[ebbtideref05_Arc.j0])
  |succ kj2=>
   have H:=HA.out;clear HA;simp only[ebbtideref05_Arc.j0] at H;by_cases c16:x34_2=true
   ·subst c16
    have H1:(some 51)=some r:=by first|(rw[Yx rfl] at H;exact H)|(rw[Yx trivial] at H;exact H)
    clear H;have H:=H1;clear H1;obtain rfl:=Option.some.inj H;go_wp2;go_ret;exact⟨by first|rfl|(simp[errW_none,errW_some]<;>rfl)|(simp[*,errW_none,errW_some]<;>rfl),by repeat(first|(with_reducible first|exact HB.out|apply Ye|apply Yd|apply Yg|refine Yh ?_ GE154.out)|exact HB.out)⟩
   replace c16:=Bool.eq_false_iff.mpr c16;subst c16;have H1:(if Wa>1048576 then(some 2) else(if Wb>1048576 then(some 2) else(some 0)))=some r:=by rw[Yy (show ¬ (false=true) by decide)] at H;exact H
   clear H;have H:=H1;clear H1;by_cases c17:Wa>1048576
   ·rw[Yx c17] at H
    have c17b0:decide (1048576<Wa)=true:=Yv c17;clear c17;obtain rfl:=Option.some.inj H;have hcz18_0:wc.cell? ⟨Wk,0,none⟩=some (.int .i64 Zg):=(Yc Xc.out 0).trans rfl;have hcz18_1:wc.cell? ⟨Wk,1,none⟩=some (.int .i64 Xd):=(Yc Xc.out 1).trans rfl;have hcz18_2:wc.cell? ⟨Wk,2,none⟩=some (.int .i64 Wa):=(Yc Xc.out 2).trans rfl;have hcz18_3:wc.cell? ⟨Wk,3,none⟩=some (.int .i64 Wb):=(Yc Xc.out 3).trans rfl;have hfz18_0:=Yf Xc.out 0;have hfz18_1:=Yf Xc.out 1;have hfz18_2:=Yf Xc.out 2;have hfz18_3:=Yf Xc.out 3;go_wp2;go_ret;exact⟨by first|rfl|(simp[errW_none,errW_some]<;>rfl)|(simp[*,errW_none,errW_some]<;>rfl),by repeat(first|(with_reducible first|exact HB.out|apply Ye|apply Yd|apply Yg|refine Yh ?_ GE154.out)|exact HB.out)⟩
   rw[Yy c17] at H;have c17b0:decide (1048576<Wa)=false:=Yw c17;clear c17;by_cases c19:Wb>1048576
   rotate_left
   ·rw[Yy c19] at H
    have c19b0:decide (1048576<Wb)=false:=Yw c19;clear c19;obtain rfl:=Option.some.inj H;have hcz21_0:wc.cell? ⟨Wk,0,none⟩=some (.int .i64 Zg):=(Yc Xc.out 0).trans rfl;have hcz21_1:wc.cell? ⟨Wk,1,none⟩=some (.int .i64 Xd):=(Yc Xc.out 1).trans rfl;have hcz21_2:wc.cell? ⟨Wk,2,none⟩=some (.int .i64 Wa):=(Yc Xc.out 2).trans rfl;have hcz21_3:wc.cell? ⟨Wk,3,none⟩=some (.int .i64 Wb):=(Yc Xc.out 3).trans rfl;have hfz21_0:=Yf Xc.out 0;have hfz21_1:=Yf Xc.out 1;have hfz21_2:=Yf Xc.out 2;have hfz21_3:=Yf Xc.out 3;go_wp2;go_ret;exact⟨by first|rfl|(simp[errW_none,errW_some]<;>rfl)|(simp[*,errW_none,errW_some]<;>rfl),by repeat(first|(with_reducible first|exact HB.out|apply Ye|apply Yd|apply Yg|refine Yh ?_ GE154.out)|exact HB.out)⟩
   rw[Yx c19] at H;have c19b0:decide (1048576<Wb)=true:=Yv c19;clear c19;obtain rfl:=Option.some.inj H;have hcz20_0:wc.cell? ⟨Wk,0,none⟩=some (.int .i64 Zg):=(Yc Xc.out 0).trans rfl;have hcz20_1:wc.cell? ⟨Wk,1,none⟩=some (.int .i64 Xd):=(Yc Xc.out 1).trans rfl;have hcz20_2:wc.cell? ⟨Wk,2,none⟩=some (.int .i64 Wa):=(Yc Xc.out 2).trans rfl;have hcz20_3:wc.cell? ⟨Wk,3,none⟩=some (.int .i64 Wb):=(Yc Xc.out 3).trans rfl;have hfz20_0:=Yf Xc.out 0;have hfz20_1:=Yf Xc.out 1;have hfz20_2:=Yf Xc.out 2;have hfz20_3:=Yf Xc.out 3;go_wp2;go_ret;exact⟨by first|rfl|(simp[errW_none,errW_some]<;>rfl)|(simp[*,errW_none,errW_some]<;>rfl),by repeat(first|(with_reducible first|exact HB.out|apply Ye|apply Yd|apply Yg|refine Yh ?_ GE154.out)|exact HB.out)⟩
end P
namespace P
attribute [local go_sem] max2_int min2_int max_two min_two max_three min_three max_four min_four
def ebbtideref05_Check.l0:Nat→Int→Int→Bool→List (S74)→Option (Int)
 |0,_,_,_,_=>none
 |k+1,x4,x156000,x156001,x156002=>if x4<(x156002.length:Int) then(if 0≤x4 then((ebbtideref05_Arc.f k x156000 ((rd_T74 x156002 x4).f0) ((rd_T74 x156002 x4).f1) ((rd_T74 x156002 x4).f2) ((rd_T74 x156002 x4).f3)).bind fun t158=>(if t158=0 then(ebbtideref05_Check.l0 k (wrap64 (x4+1)) x156000 x156001 x156002) else(some t158))) else(none)) else(some 0)
def ebbtideref05_Check.f (k:Nat) (Zc:Int) (Zb:Bool) (Za:List (S74)):Option (Int):=(ebbtideref05_nodes.f Zc).bind fun t156=>(if t156=0 then(if (Za.length:Int)>200 then(some 2) else(ebbtideref05_Check.l0 k 0 Zc Zb Za)) else(some t156))
def ebbtideref05_Check.T9:Bool × List (List Nat × List Nat):=(true,[([],[]),([0],[0]),([],[]),([2],[2]),([],[]),([3,4],[3,4]),([5],[5]),([1,6],[1,6]),([7,7,0,1,2,3,4,5,6,7],[7])])
def ebbtideref05_Check.B9:List Nat:=[0,1,0,4,0,28,60,127,255]
theorem ebbtideref05_Check.tab9:rtab .any (opsOf Try.f78 9)=ebbtideref05_Check.T9:=by kernel_rfl
theorem ebbtideref05_Check.bits9:waitsOk ebbtideref05_Check.T9.2 ebbtideref05_Check.B9=true:=by kernel_rfl
set_option maxHeartbeats 8000000 in
set_option maxRecDepth 100000 in
theorem ebbtideref05_Check.calls (k:Nat) (Zc:Int) (Zb:Bool) (Ze:Option Addr) (Zd:Nat) (Za:List (S74)) (r:Int) (w:World) (Zr:Kd.C k74 w Ze Za.length Za) (Zs:Za.length≤Zd) (h:ebbtideref05_Check.f k Zc Zb Za=some r):
  Calls Try.prog 78 #[.agg #[.int .i64 Zc, .bool Zb, .slice Ze Za.length Zd]] w fun e w'=>e= .returned (.int .i64 r)∧Below w.heap.size w w':=by
 have hu24:=Try.underlying24;have hu74:=Try.underlying74;have Zl:=Ya Zr;have Zv:=Ya Zs;clear Zr Zs;have HB:=Ya (Yo w.heap.size w);have H:((ebbtideref05_nodes.f Zc).bind fun t156=>(if t156=0 then(if (Za.length:Int)>200 then(some 2) else(ebbtideref05_Check.l0 k 0 Zc Zb Za)) else(some t156)))=some r:=h;clear h;replace H:=Option.bind_eq_some_iff.mp H;obtain⟨t156,A20,H⟩:=H;replace H:(if t156=0 then(if (Za.length:Int)>200 then(some 2) else(ebbtideref05_Check.l0 k 0 Zc Zb Za)) else(some t156))=some r:=H;have A2:=Ya A20;clear A20;by_cases c3:t156=0
 rotate_left
 ·rw[Yy c3] at H
  have c3b0:(t156 == 0)=false:=beq_eq_false_iff_ne.mpr c3;have c3b1:(t156 != 0)=true:=bne_iff_ne.mpr c3;obtain rfl:=Option.some.inj H;go_enter Try.func78,Try.ntmps78;go_wp2_with (first|((with_reducible refine gate_dst (N:=1) rfl ?_);refine Yz ?hg (N:=1) ?hd (cs:= #[.int .i64 Zc, .bool Zb, .slice Ze Za.length Zd]) (t:=24) ?hr ?_;(case hd=>rfl);(case hg=>rfl);(case hr=>first|(go_simp;done)|(go_simp;rfl));intro Wu hg w20 Zf hb;have n0_:=Ya (Yk (by repeat(first|(with_reducible first|exact HB.out|apply Ye|apply Yd|apply Yg)|exact HB.out)) hb);have n1_:=Ya (Zf);have n2_:=Ya ((by rw[hg];exact(Yi (by repeat(first|(with_reducible first|exact HB.out|apply Ye|apply Yd|apply Yg)|exact HB.out))):w.heap.size≤Wu));have n3_:=Ya ((by rw[hg];exact(Yi (by repeat(first|(with_reducible first|exact HB.out|apply Ye|apply Yd|apply Yg)|exact HB.out))):w.heap.size≤Wu));clear HB;have HB:=n0_;have Xh:=n1_;have GW155:=n2_;have GE155:=n3_;clear n0_ n1_ n2_ n3_;clear hb Zf hg;have hcz21_0:w20.cell? ⟨Wu,0,none⟩=some (.int .i64 Zc):=(Yc Xh.out 0).trans rfl;have hcz21_1:w20.cell? ⟨Wu,1,none⟩=some (.bool Zb):=(Yc Xh.out 1).trans rfl;have hcz21_2:w20.cell? ⟨Wu,2,none⟩=some (.slice Ze Za.length Zd):=(Yc Xh.out 2).trans rfl;have hfz21_0:=Yf Xh.out 0;have hfz21_1:=Yf Xh.out 1;have hfz21_2:=Yf Xh.out 2)|((with_reducible refine gate_callee (f:=122) rfl ?_);refine goesL_ (some 8) rfl rfl Try.func122 (by kernel_rfl) rfl #[.int .i64 Zc] rfl (by(try simp only[List.map_toArray,List.map_cons,List.map_nil]);first|done|rfl|(simp only[List.length_drop,List.length_take];rfl)) ?_;(with_reducible refine(ebbtideref05_nodes.calls Zc t156 _ A2.out).mono ?_);rintro e w' ⟨rfl,⟨nd,rfl⟩⟩;refine⟨_,rfl,?_⟩));go_ret;exact⟨by first|rfl|(simp[errW_none,errW_some]<;>rfl)|(simp[*,errW_none,errW_some]<;>rfl),by repeat(first|(with_reducible first|exact HB.out|apply Ye|apply Yd|apply Yg|refine Yh ?_ GE155.out)|exact HB.out)⟩
 rw[Yx c3] at H;have c3b0:(t156 == 0)=true:=beq_iff_eq.mpr c3;have c3b1:(t156 != 0)=false:=bne_eq_false_iff_eq.mpr c3;clear c3;by_cases c4:(Za.length:Int)>200
 ·rw[Yx c4] at H
  have c4b0:decide (200<(Za.length:Int))=true:=Yv c4;have c4b1:decide (200<Za.length)=true:=Yv (by omega);clear c4;obtain rfl:=Option.some.inj H;go_enter Try.func78,Try.ntmps78;go_wp2_with (first|((with_reducible refine gate_dst (N:=1) rfl ?_);refine Yz ?hg (N:=1) ?hd (cs:= #[.int .i64 Zc, .bool Zb, .slice Ze Za.length Zd]) (t:=24) ?hr ?_;(case hd=>rfl);(case hg=>rfl);(case hr=>first|(go_simp;done)|(go_simp;rfl));intro Wu hg w5 Zf hb;have n0_:=Ya (Yk (by repeat(first|(with_reducible first|exact HB.out|apply Ye|apply Yd|apply Yg)|exact HB.out)) hb);have n1_:=Ya (Zf);have n2_:=Ya ((by rw[hg];exact(Yi (by repeat(first|(with_reducible first|exact HB.out|apply Ye|apply Yd|apply Yg)|exact HB.out))):w.heap.size≤Wu));have n3_:=Ya ((by rw[hg];exact(Yi (by repeat(first|(with_reducible first|exact HB.out|apply Ye|apply Yd|apply Yg)|exact HB.out))):w.heap.size≤Wu));clear HB;have HB:=n0_;have Xh:=n1_;have GW155:=n2_;have GE155:=n3_;clear n0_ n1_ n2_ n3_;clear hb Zf hg;have hcz6_0:w5.cell? ⟨Wu,0,none⟩=some (.int .i64 Zc):=(Yc Xh.out 0).trans rfl;have hcz6_1:w5.cell? ⟨Wu,1,none⟩=some (.bool Zb):=(Yc Xh.out 1).trans rfl;have hcz6_2:w5.cell? ⟨Wu,2,none⟩=some (.slice Ze Za.length Zd):=(Yc Xh.out 2).trans rfl;have hfz6_0:=Yf Xh.out 0;have hfz6_1:=Yf Xh.out 1;have hfz6_2:=Yf Xh.out 2)|((with_reducible refine gate_callee (f:=122) rfl ?_);refine goesL_ (some 8) rfl rfl Try.func122 (by kernel_rfl) rfl #[.int .i64 Zc] rfl (by(try simp only[List.map_toArray,List.map_cons,List.map_nil]);first|done|rfl|(simp only[List.length_drop,List.length_take];rfl)) ?_;(with_reducible refine(ebbtideref05_nodes.calls Zc t156 _ A2.out).mono ?_);rintro e w' ⟨rfl,⟨nd,rfl⟩⟩;refine⟨_,rfl,?_⟩));go_ret;exact⟨by first|rfl|(simp[errW_none,errW_some]<;>rfl)|(simp[*,errW_none,errW_some]<;>rfl),by repeat(first|(with_reducible first|exact HB.out|apply Ye|apply Yd|apply Yg|refine Yh ?_ GE155.out)|exact HB.out)⟩
 rw[Yy c4] at H;have c4b0:decide (200<(Za.length:Int))=false:=Yw c4;have c4b1:decide (200<Za.length)=false:=Yw (by omega);clear c4;have H':=Ya H;clear H;go_enter Try.func78,Try.ntmps78;go_wp2_with (first|((with_reducible refine gate_dst (N:=1) rfl ?_);refine Yz ?hg (N:=1) ?hd (cs:= #[.int .i64 Zc, .bool Zb, .slice Ze Za.length Zd]) (t:=24) ?hr ?_;(case hd=>rfl);(case hg=>rfl);(case hr=>first|(go_simp;done)|(go_simp;rfl));intro Wu hg w7 Zf hb;have n0_:=Ya (Yk (by repeat(first|(with_reducible first|exact HB.out|apply Ye|apply Yd|apply Yg)|exact HB.out)) hb);have n1_:=Ya (Zf);have n2_:=Ya ((by rw[hg];exact(Yi (by repeat(first|(with_reducible first|exact HB.out|apply Ye|apply Yd|apply Yg)|exact HB.out))):w.heap.size≤Wu));have n3_:=Ya ((by rw[hg];exact(Yi (by repeat(first|(with_reducible first|exact HB.out|apply Ye|apply Yd|apply Yg)|exact HB.out))):w.heap.size≤Wu));clear HB;have HB:=n0_;have Xh:=n1_;have GW155:=n2_;have GE155:=n3_;clear n0_ n1_ n2_ n3_;clear hb Zf hg;have hcz8_0:w7.cell? ⟨Wu,0,none⟩=some (.int .i64 Zc):=(Yc Xh.out 0).trans rfl;have hcz8_1:w7.cell? ⟨Wu,1,none⟩=some (.bool Zb):=(Yc Xh.out 1).trans rfl;have hcz8_2:w7.cell? ⟨Wu,2,none⟩=some (.slice Ze Za.length Zd):=(Yc Xh.out 2).trans rfl;have hfz8_0:=Yf Xh.out 0;have hfz8_1:=Yf Xh.out 1;have hfz8_2:=Yf Xh.out 2)|((with_reducible refine gate_callee (f:=122) rfl ?_);refine goesL_ (some 8) rfl rfl Try.func122 (by kernel_rfl) rfl #[.int .i64 Zc] rfl (by(try simp only[List.map_toArray,List.map_cons,List.map_nil]);first|done|rfl|(simp only[List.length_drop,List.length_take];rfl)) ?_;(with_reducible refine(ebbtideref05_nodes.calls Zc t156 _ A2.out).mono ?_);rintro e w' ⟨rfl,⟨nd,rfl⟩⟩;refine⟨_,rfl,?_⟩));go_loopg [4] k (fun kq v4 w'=> ∃ (Wt:Int),v4= .int .i64 Wt∧Aside0 (ebbtideref05_Check.l0 kq Wt Zc Zb Za=some r)∧Aside0 (kq≤k)∧Aside0 (w'.heap[Wu]? =some (.cells #[.int .i64 Zc, .bool Zb,(.slice Ze Za.length Zd)] 24 (0,0)))∧Aside0 (Below w.heap.size w w'))
 case atStart=>exact⟨(0),(by first|rfl|(simp;done)|(simp[*];done)),H',⟨Nat.le_refl _⟩,⟨by(with_reducible repeat(first|refine Yl ?_ _|refine Ym ?_|refine Yj ?_ _));exact Xh.out⟩,⟨by repeat(first|(with_reducible first|exact HB.out|apply Ye|apply Yd|apply Yg|refine Yh ?_ GE155.out)|exact HB.out)⟩⟩
 case round=>
  clear H';try clear c1
  try clear p2
  try clear c3
  try clear c3b0
  try clear c3b1
  try clear c4
  try clear c4b0
  try clear c4b1
  try clear c7
  try clear hcz6_0
  try clear hcz6_1
  try clear hcz6_2
  try clear hcz8_0
  try clear hcz8_1
  try clear hcz8_2
  try clear hfz6_0
  try clear hfz6_1
  try clear hfz6_2
  try clear hfz8_0
  try clear hfz8_1
  try clear hfz8_2
  obtain⟨Wt,rfl,HA,HK1,Xh,HB⟩:=hrel;cases gk with
  |zero=>exact absurd HA.out (by simp[ebbtideref05_Check.l0])
  |succ k1=>
   have H:=HA.out;clear HA;simp only[ebbtideref05_Check.l0] at H;by_cases c9:Wt<(Za.length:Int)
   rotate_left
   ·rw[Yy c9] at H
    have c9b0:decide (Wt<(Za.length:Int))=false:=Yw c9;clear c9;obtain rfl:=Option.some.inj H;have hcz19_0:wr.cell? ⟨Wu,0,none⟩=some (.int .i64 Zc):=(Yc Xh.out 0).trans rfl;have hcz19_1:wr.cell? ⟨Wu,1,none⟩=some (.bool Zb):=(Yc Xh.out 1).trans rfl;have hcz19_2:wr.cell? ⟨Wu,2,none⟩=some (.slice Ze Za.length Zd):=(Yc Xh.out 2).trans rfl;have hfz19_0:=Yf Xh.out 0;have hfz19_1:=Yf Xh.out 1;have hfz19_2:=Yf Xh.out 2;go_wp2;go_ret;exact⟨by first|rfl|(simp[errW_none,errW_some]<;>rfl)|(simp[*,errW_none,errW_some]<;>rfl),by repeat(first|(with_reducible first|exact HB.out|apply Ye|apply Yd|apply Yg|refine Yh ?_ GE155.out)|exact HB.out)⟩
   rw[Yx c9] at H;have c9b0:decide (Wt<(Za.length:Int))=true:=Yv c9;clear c9;by_cases c10:0≤Wt
   rotate_left
   ·rw[Yy c10] at H
    exact absurd H (by simp)
   rw[Yx c10] at H;have c10b0:decide (0≤Wt)=true:=Yv c10;clear c10;replace H:=Option.bind_eq_some_iff.mp H;obtain⟨t158,A110,H⟩:=H;replace H:(if t158=0 then(ebbtideref05_Check.l0 k1 (wrap64 (Wt+1)) Zc Zb Za) else(some t158))=some r:=H;have A11:=Ya A110;clear A110;by_cases c12:t158=0
   rotate_left
   ·rw[Yy c12] at H
    have c12b0:(t158 == 0)=false:=beq_eq_false_iff_ne.mpr c12;have c12b1:(t158 != 0)=true:=bne_iff_ne.mpr c12;obtain rfl:=Option.some.inj H;have hcz16_0:wr.cell? ⟨Wu,0,none⟩=some (.int .i64 Zc):=(Yc Xh.out 0).trans rfl;have hcz16_1:wr.cell? ⟨Wu,1,none⟩=some (.bool Zb):=(Yc Xh.out 1).trans rfl;have hcz16_2:wr.cell? ⟨Wu,2,none⟩=some (.slice Ze Za.length Zd):=(Yc Xh.out 2).trans rfl;have hfz16_0:=Yf Xh.out 0;have hfz16_1:=Yf Xh.out 1;have hfz16_2:=Yf Xh.out 2;try go_wp2
    have n0_:=Ya (Ym Xh.out);have n1_:=Ya (Yg HB.out);clear Xh;clear HB;have Xh:=n0_;have HB:=n1_;clear n0_ n1_;have p157:0≤(Wt:Int):=Yu (by first|(with_reducible assumption)|assumption);have q157:Wt<(Za.length:Int):=Yu (by first|(with_reducible assumption)|assumption);obtain⟨ad157,e157,hx157_0,hx157_1,hx157_2,hx157_3⟩:=at_T74 Zl.out Wt p157 q157;have hw157_3:=hx157_3;have hw157_2:=hx157_2;have hw157_1:=hx157_1;have hw157_0:=hx157_0;cases e157;replace hx157_0:=(HB.out.cell (Yb w _ hx157_0)).trans hx157_0;replace hx157_1:=(HB.out.cell (Yb w _ hx157_1)).trans hx157_1;replace hx157_2:=(HB.out.cell (Yb w _ hx157_2)).trans hx157_2;replace hx157_3:=(HB.out.cell (Yb w _ hx157_3)).trans hx157_3;replace p157:=eq_true p157;replace q157:=eq_true q157;refine start_ (n:=9) (S:=fun w'=>w'.cell? ⟨Wu,0,none⟩=some (.int .i64 Zc)∧w'.cell? ⟨Wu,1,none⟩=some (.bool Zb)∧w'.cell? ⟨Wu,2,none⟩=some (.slice (some ad157) Za.length Zd)∧w'.cell? (ad157.add ((Wt).toNat * 4))=some (.int .i64 ((rd_T74 Za Wt).f0))∧w'.cell? ⟨(ad157.add ((Wt).toNat * 4)).block,(ad157.add ((Wt).toNat * 4)).off+1,none⟩=some (.int .i64 ((rd_T74 Za Wt).f1))∧w'.cell? ⟨(ad157.add ((Wt).toNat * 4)).block,(ad157.add ((Wt).toNat * 4)).off+2,none⟩=some (.int .i64 ((rd_T74 Za Wt).f2))∧w'.cell? ⟨(ad157.add ((Wt).toNat * 4)).block,(ad157.add ((Wt).toNat * 4)).off+3,none⟩=some (.int .i64 ((rd_T74 Za Wt).f3))) (ds:=[]) #[false,false,false,false,false,false,false,false,false] (by kernel_rfl) rfl rfl ⟨(Yc Xh.out 0).trans rfl,(Yc Xh.out 1).trans rfl,(Yc Xh.out 2).trans rfl,((HB.out.cell (Yb w _ hw157_0)).trans hw157_0),((HB.out.cell (Yb w _ hw157_1)).trans hw157_1),((HB.out.cell (Yb w _ hw157_2)).trans hw157_2),((HB.out.cell (Yb w _ hw157_3)).trans hw157_3)⟩ (fun hHeld=> ?_);refine with_tabW ebbtideref05_Check.tab9 ebbtideref05_Check.bits9 (fun HT_ HW_=> ?_);generalize wr.drew=w17 at Xh HB hx157_0 hx157_1 hx157_2 hx157_3 hHeld ⊢;refine pure_ (i:=0) (N:=some 23) (v:= ?_) (a':= ?_) #[true,false,false,false,false,false,false,false,false] rfl rfl (any_of HT_.out (by kernel_rfl)) (fun _ _ _ h=>h) (Or.inl ⟨by rfl,?_⟩) ?_ ?_
    rotate_left
    ·intro w'
     go_simp
     with_reducible rfl
    rotate_left
    ·simp only[Act.put,List.setIfInBounds_toArray,List.set_cons_zero,List.set_cons_succ,i64_w,i32_w]
     rfl
    refine pure_ (i:=2) (N:=some 25) (v:= ?_) (a':= ?_) #[true,false,true,false,false,false,false,false,false] rfl rfl (any_of HT_.out (by kernel_rfl)) (fun _ _ _ h=>h) (Or.inl ⟨by rfl,?_⟩) ?_ ?_
    rotate_left
    ·intro w'
     go_simp
     with_reducible rfl
    rotate_left
    ·simp only[Act.put,List.setIfInBounds_toArray,List.set_cons_zero,List.set_cons_succ,i64_w,i32_w]
     rfl
    refine pure_ (i:=4) (N:=some 27) (v:= ?_) (a':= ?_) #[true,false,true,false,true,false,false,false,false] rfl rfl (any_of HT_.out (by kernel_rfl)) (fun _ _ _ h=>h) (Or.inl ⟨by rfl,?_⟩) ?_ ?_
    rotate_left
    ·intro w'
     go_simp
     with_reducible rfl
    rotate_left
    ·simp only[Act.put,List.setIfInBounds_toArray,List.set_cons_zero,List.set_cons_succ,i64_w,i32_w]
     rfl
    refine take_ (i:=1) (N:=some 24) (v:= ?_) (a':= ?_) #[true,true,true,false,true,false,false,false,false] rfl rfl (take_ofW HT_.out HW_.out (by kernel_rfl)) (fun _ _ _ h=>h) (Or.inl ⟨by rfl,?_⟩) hHeld ?_ ?_
    rotate_left
    ·rintro w' ⟨s0,s1,s2,s3,s4,s5,s6⟩
     go_simp
     with_reducible rfl
    rotate_left
    ·simp only[Act.put,List.setIfInBounds_toArray,List.set_cons_zero,List.set_cons_succ,i64_w,i32_w]
     rfl
    refine take_ (i:=3) (N:=some 26) (v:= ?_) (a':= ?_) #[true,true,true,true,true,false,false,false,false] rfl rfl (take_ofW HT_.out HW_.out (by kernel_rfl)) (fun _ _ _ h=>h) (Or.inl ⟨by rfl,?_⟩) hHeld ?_ ?_
    rotate_left
    ·rintro w' ⟨s0,s1,s2,s3,s4,s5,s6⟩
     go_simp
     with_reducible rfl
    rotate_left
    ·simp only[Act.put,List.setIfInBounds_toArray,List.set_cons_zero,List.set_cons_succ,i64_w,i32_w]
     rfl
    refine pure_ (i:=5) (N:=some 28) (v:= ?_) (a':= ?_) #[true,true,true,true,true,true,false,false,false] rfl rfl (any_of HT_.out (by kernel_rfl)) (fun _ _ _ h=>h) (Or.inl ⟨by rfl,?_⟩) ?_ ?_
    rotate_left
    ·intro w'
     go_simp
     with_reducible rfl
    rotate_left
    ·simp only[Act.put,List.setIfInBounds_toArray,List.set_cons_zero,List.set_cons_succ,i64_w,i32_w]
     rfl
    refine take_ (i:=6) (N:=some 29) (v:= ?_) (a':= ?_) #[true,true,true,true,true,true,true,false,false] rfl rfl (take_ofW HT_.out HW_.out (by kernel_rfl)) (fun _ _ _ h=>h) (Or.inl ⟨by rfl,?_⟩) hHeld ?_ ?_
    rotate_left
    ·rintro w' ⟨s0,s1,s2,s3,s4,s5,s6⟩
     go_simp
     with_reducible rfl
    rotate_left
    ·simp only[Act.put,List.setIfInBounds_toArray,List.set_cons_zero,List.set_cons_succ,i64_w,i32_w]
     rfl
    refine one_ (i:=7) (N:=some 30) #[true,true,true,true,true,true,true,true,false] rfl rfl (one_of HT_.out (by kernel_rfl)) (by decide) (fun K hK=> ?_);refine goes_ Try.func123 (by kernel_rfl) rfl #[.int .i64 Zc, .agg #[.int .i64 ((rd_T74 Za Wt).f0), .int .i64 ((rd_T74 Za Wt).f1), .int .i64 ((rd_T74 Za Wt).f2), .int .i64 ((rd_T74 Za Wt).f3)]] (by rfl) rfl rfl (by(try simp only[List.map_toArray,List.map_cons,List.map_nil]);first|done|rfl|(simp only[List.length_drop,List.length_take];rfl)) ?_
    with_reducible refine(ebbtideref05_Arc.calls k1 Zc ((rd_T74 Za Wt).f0) ((rd_T74 Za Wt).f1) ((rd_T74 Za Wt).f2) ((rd_T74 Za Wt).f3) t158 _ A11.out).mono ?_
    rintro e w18 ⟨rfl,hb⟩;refine⟨_,rfl,?_⟩;have n0_:=Ya (Yn (g:=Wu) (o:= .cells #[.int .i64 Zc, .bool Zb, .slice (some ad157) Za.length Zd] 24 (0,0)) (by(with_reducible repeat(first|refine Yl ?_ _|refine Ym ?_|refine Yj ?_ _));exact Xh.out) hb);have n1_:=Ya (Yk (by repeat(first|(with_reducible first|exact HB.out|apply Ye|apply Yd|apply Yg|refine Yh ?_ GE155.out)|exact HB.out)) hb);clear Xh;clear HB;have Xh:=n0_;have HB:=n1_;clear n0_ n1_
    (try clear hb)
    (try clear hb2)
    (try clear hk)
    (try clear hi)
    refine hK.out _ _ ⟨(Yc Xh.out 0).trans rfl,(Yc Xh.out 1).trans rfl,(Yc Xh.out 2).trans rfl,((HB.out.cell (Yb w _ hw157_0)).trans hw157_0),((HB.out.cell (Yb w _ hw157_1)).trans hw157_1),((HB.out.cell (Yb w _ hw157_2)).trans hw157_2),((HB.out.cell (Yb w _ hw157_3)).trans hw157_3)⟩ (fun hHeld=> ?_);clear hK K;refine norm_ (a':= ?_) ?_ ?_
    rotate_left
    ·show Act.put _ (some 30) _=_
     simp only[Act.put,List.setIfInBounds_toArray,List.set_cons_zero,List.set_cons_succ,i64_w,i32_w];rfl
    refine pure_ (i:=8) (N:=some 5) (v:= ?_) (a':= ?_) #[true,true,true,true,true,true,true,true,true] rfl rfl (any_of HT_.out (by kernel_rfl)) (fun _ _ _ h=>h) (Or.inl ⟨by rfl,?_⟩) ?_ ?_
    rotate_left
    ·intro w'
     go_simp
     with_reducible rfl
    rotate_left
    ·simp only[Act.put,List.setIfInBounds_toArray,List.set_cons_zero,List.set_cons_succ,i64_w,i32_w]
     rfl
    refine done_ (done_of HT_.out (by kernel_rfl)) ?_;try go_wp2
    go_ret;exact⟨by first|rfl|(simp[errW_none,errW_some]<;>rfl)|(simp[*,errW_none,errW_some]<;>rfl),by repeat(first|(with_reducible first|exact HB.out|apply Ye|apply Yd|apply Yg|refine Yh ?_ GE155.out)|exact HB.out)⟩
   rw[Yx c12] at H;have c12b0:(t158 == 0)=true:=beq_iff_eq.mpr c12;have c12b1:(t158 != 0)=false:=bne_eq_false_iff_eq.mpr c12;clear c12;have H':=Ya H;clear H;have hcz13_0:wr.cell? ⟨Wu,0,none⟩=some (.int .i64 Zc):=(Yc Xh.out 0).trans rfl;have hcz13_1:wr.cell? ⟨Wu,1,none⟩=some (.bool Zb):=(Yc Xh.out 1).trans rfl;have hcz13_2:wr.cell? ⟨Wu,2,none⟩=some (.slice Ze Za.length Zd):=(Yc Xh.out 2).trans rfl;have hfz13_0:=Yf Xh.out 0;have hfz13_1:=Yf Xh.out 1;have hfz13_2:=Yf Xh.out 2;try go_wp2
   have n0_:=Ya (Ym Xh.out);have n1_:=Ya (Yg HB.out);clear Xh;clear HB;have Xh:=n0_;have HB:=n1_;clear n0_ n1_;have p157:0≤(Wt:Int):=Yu (by first|(with_reducible assumption)|assumption);have q157:Wt<(Za.length:Int):=Yu (by first|(with_reducible assumption)|assumption);obtain⟨ad157,e157,hx157_0,hx157_1,hx157_2,hx157_3⟩:=at_T74 Zl.out Wt p157 q157;have hw157_3:=hx157_3;have hw157_2:=hx157_2;have hw157_1:=hx157_1;have hw157_0:=hx157_0;cases e157;replace hx157_0:=(HB.out.cell (Yb w _ hx157_0)).trans hx157_0;replace hx157_1:=(HB.out.cell (Yb w _ hx157_1)).trans hx157_1;replace hx157_2:=(HB.out.cell (Yb w _ hx157_2)).trans hx157_2;replace hx157_3:=(HB.out.cell (Yb w _ hx157_3)).trans hx157_3;replace p157:=eq_true p157;replace q157:=eq_true q157;refine start_ (n:=9) (S:=fun w'=>w'.cell? ⟨Wu,0,none⟩=some (.int .i64 Zc)∧w'.cell? ⟨Wu,1,none⟩=some (.bool Zb)∧w'.cell? ⟨Wu,2,none⟩=some (.slice (some ad157) Za.length Zd)∧w'.cell? (ad157.add ((Wt).toNat * 4))=some (.int .i64 ((rd_T74 Za Wt).f0))∧w'.cell? ⟨(ad157.add ((Wt).toNat * 4)).block,(ad157.add ((Wt).toNat * 4)).off+1,none⟩=some (.int .i64 ((rd_T74 Za Wt).f1))∧w'.cell? ⟨(ad157.add ((Wt).toNat * 4)).block,(ad157.add ((Wt).toNat * 4)).off+2,none⟩=some (.int .i64 ((rd_T74 Za Wt).f2))∧w'.cell? ⟨(ad157.add ((Wt).toNat * 4)).block,(ad157.add ((Wt).toNat * 4)).off+3,none⟩=some (.int .i64 ((rd_T74 Za Wt).f3))) (ds:=[]) #[false,false,false,false,false,false,false,false,false] (by kernel_rfl) rfl rfl ⟨(Yc Xh.out 0).trans rfl,(Yc Xh.out 1).trans rfl,(Yc Xh.out 2).trans rfl,((HB.out.cell (Yb w _ hw157_0)).trans hw157_0),((HB.out.cell (Yb w _ hw157_1)).trans hw157_1),((HB.out.cell (Yb w _ hw157_2)).trans hw157_2),((HB.out.cell (Yb w _ hw157_3)).trans hw157_3)⟩ (fun hHeld=> ?_);refine with_tabW ebbtideref05_Check.tab9 ebbtideref05_Check.bits9 (fun HT_ HW_=> ?_);generalize wr.drew=w14 at Xh HB hx157_0 hx157_1 hx157_2 hx157_3 hHeld ⊢;refine pure_ (i:=0) (N:=some 23) (v:= ?_) (a':= ?_) #[true,false,false,false,false,false,false,false,false] rfl rfl (any_of HT_.out (by kernel_rfl)) (fun _ _ _ h=>h) (Or.inl ⟨by rfl,?_⟩) ?_ ?_
   rotate_left
   ·intro w'
    go_simp
    with_reducible rfl
   rotate_left
   ·simp only[Act.put,List.setIfInBounds_toArray,List.set_cons_zero,List.set_cons_succ,i64_w,i32_w]
    rfl
   refine pure_ (i:=2) (N:=some 25) (v:= ?_) (a':= ?_) #[true,false,true,false,false,false,false,false,false] rfl rfl (any_of HT_.out (by kernel_rfl)) (fun _ _ _ h=>h) (Or.inl ⟨by rfl,?_⟩) ?_ ?_
   rotate_left
   ·intro w'
    go_simp
    with_reducible rfl
   rotate_left
   ·simp only[Act.put,List.setIfInBounds_toArray,List.set_cons_zero,List.set_cons_succ,i64_w,i32_w]
    rfl
   refine pure_ (i:=4) (N:=some 27) (v:= ?_) (a':= ?_) #[true,false,true,false,true,false,false,false,false] rfl rfl (any_of HT_.out (by kernel_rfl)) (fun _ _ _ h=>h) (Or.inl ⟨by rfl,?_⟩) ?_ ?_
   rotate_left
   ·intro w'
    go_simp
    with_reducible rfl
   rotate_left
   ·simp only[Act.put,List.setIfInBounds_toArray,List.set_cons_zero,List.set_cons_succ,i64_w,i32_w]
    rfl
   refine take_ (i:=1) (N:=some 24) (v:= ?_) (a':= ?_) #[true,true,true,false,true,false,false,false,false] rfl rfl (take_ofW HT_.out HW_.out (by kernel_rfl)) (fun _ _ _ h=>h) (Or.inl ⟨by rfl,?_⟩) hHeld ?_ ?_
   rotate_left
   ·rintro w' ⟨s0,s1,s2,s3,s4,s5,s6⟩
    go_simp
    with_reducible rfl
   rotate_left
   ·simp only[Act.put,List.setIfInBounds_toArray,List.set_cons_zero,List.set_cons_succ,i64_w,i32_w]
    rfl
   refine take_ (i:=3) (N:=some 26) (v:= ?_) (a':= ?_) #[true,true,true,true,true,false,false,false,false] rfl rfl (take_ofW HT_.out HW_.out (by kernel_rfl)) (fun _ _ _ h=>h) (Or.inl ⟨by rfl,?_⟩) hHeld ?_ ?_
   rotate_left
   ·rintro w' ⟨s0,s1,s2,s3,s4,s5,s6⟩
    go_simp
    with_reducible rfl
   rotate_left
   ·simp only[Act.put,List.setIfInBounds_toArray,List.set_cons_zero,List.set_cons_succ,i64_w,i32_w]
    rfl
   refine pure_ (i:=5) (N:=some 28) (v:= ?_) (a':= ?_) #[true,true,true,true,true,true,false,false,false] rfl rfl (any_of HT_.out (by kernel_rfl)) (fun _ _ _ h=>h) (Or.inl ⟨by rfl,?_⟩) ?_ ?_
   rotate_left
   ·intro w'
    go_simp
    with_reducible rfl
   rotate_left
   ·simp only[Act.put,List.setIfInBounds_toArray,List.set_cons_zero,List.set_cons_succ,i64_w,i32_w]
    rfl
   refine take_ (i:=6) (N:=some 29) (v:= ?_) (a':= ?_) #[true,true,true,true,true,true,true,false,false] rfl rfl (take_ofW HT_.out HW_.out (by kernel_rfl)) (fun _ _ _ h=>h) (Or.inl ⟨by rfl,?_⟩) hHeld ?_ ?_
   rotate_left
   ·rintro w' ⟨s0,s1,s2,s3,s4,s5,s6⟩
    go_simp
    with_reducible rfl
   rotate_left
   ·simp only[Act.put,List.setIfInBounds_toArray,List.set_cons_zero,List.set_cons_succ,i64_w,i32_w]
    rfl
   refine one_ (i:=7) (N:=some 30) #[true,true,true,true,true,true,true,true,false] rfl rfl (one_of HT_.out (by kernel_rfl)) (by decide) (fun K hK=> ?_);refine goes_ Try.func123 (by kernel_rfl) rfl #[.int .i64 Zc, .agg #[.int .i64 ((rd_T74 Za Wt).f0), .int .i64 ((rd_T74 Za Wt).f1), .int .i64 ((rd_T74 Za Wt).f2), .int .i64 ((rd_T74 Za Wt).f3)]] (by rfl) rfl rfl (by(try simp only[List.map_toArray,List.map_cons,List.map_nil]);first|done|rfl|(simp only[List.length_drop,List.length_take];rfl)) ?_
   with_reducible refine(ebbtideref05_Arc.calls k1 Zc ((rd_T74 Za Wt).f0) ((rd_T74 Za Wt).f1) ((rd_T74 Za Wt).f2) ((rd_T74 Za Wt).f3) t158 _ A11.out).mono ?_
   rintro e w15 ⟨rfl,hb⟩;refine⟨_,rfl,?_⟩;have n0_:=Ya (Yn (g:=Wu) (o:= .cells #[.int .i64 Zc, .bool Zb, .slice (some ad157) Za.length Zd] 24 (0,0)) (by(with_reducible repeat(first|refine Yl ?_ _|refine Ym ?_|refine Yj ?_ _));exact Xh.out) hb);have n1_:=Ya (Yk (by repeat(first|(with_reducible first|exact HB.out|apply Ye|apply Yd|apply Yg|refine Yh ?_ GE155.out)|exact HB.out)) hb);clear Xh;clear HB;have Xh:=n0_;have HB:=n1_;clear n0_ n1_
   (try clear hb)
   (try clear hb2)
   (try clear hk)
   (try clear hi)
   refine hK.out _ _ ⟨(Yc Xh.out 0).trans rfl,(Yc Xh.out 1).trans rfl,(Yc Xh.out 2).trans rfl,((HB.out.cell (Yb w _ hw157_0)).trans hw157_0),((HB.out.cell (Yb w _ hw157_1)).trans hw157_1),((HB.out.cell (Yb w _ hw157_2)).trans hw157_2),((HB.out.cell (Yb w _ hw157_3)).trans hw157_3)⟩ (fun hHeld=> ?_);clear hK K;refine norm_ (a':= ?_) ?_ ?_
   rotate_left
   ·show Act.put _ (some 30) _=_
    simp only[Act.put,List.setIfInBounds_toArray,List.set_cons_zero,List.set_cons_succ,i64_w,i32_w];rfl
   refine pure_ (i:=8) (N:=some 5) (v:= ?_) (a':= ?_) #[true,true,true,true,true,true,true,true,true] rfl rfl (any_of HT_.out (by kernel_rfl)) (fun _ _ _ h=>h) (Or.inl ⟨by rfl,?_⟩) ?_ ?_
   rotate_left
   ·intro w'
    go_simp
    with_reducible rfl
   rotate_left
   ·simp only[Act.put,List.setIfInBounds_toArray,List.set_cons_zero,List.set_cons_succ,i64_w,i32_w]
    rfl
   refine done_ (done_of HT_.out (by kernel_rfl)) ?_;try go_wp2
   go_roundg k1
   case measure=>have:=HK1.out;omega
   case rel=>exact⟨(wrap64 (Wt+1)),(by first|rfl|(simp;done)|(simp[*];done)),H',⟨by have:=HK1.out;omega⟩,⟨by(with_reducible repeat(first|refine Yl ?_ _|refine Ym ?_|refine Yj ?_ _));exact Xh.out⟩,⟨by repeat(first|(with_reducible first|exact HB.out|apply Ye|apply Yd|apply Yg|refine Yh ?_ GE155.out)|exact HB.out)⟩⟩
end P
namespace P
attribute [local go_sem] max2_int min2_int max_two min_two max_three min_three max_four min_four
def ebbtideref07_Within.l0:Nat→List Int→Int→Int→Bool→List (S74)→Option (Bool)
 |0,_,_,_,_,_=>none
 |k+1,x1,x5,x160000,x160001,x160002=>if x5<(x1.length:Int) then(if 0≤x5 then(if (rd x1 x5)<0 then(some false) else(if x5<(x160002.length:Int) then(if (rd x1 x5)>((rd_T74 x160002 x5).f2) then(some false) else(ebbtideref07_Within.l0 k x1 (wrap64 (x5+1)) x160000 x160001 x160002)) else(none))) else(none)) else(some true)
def ebbtideref07_Within.f (k:Nat) (Zc:Int) (Zb:Bool) (Za:List (S74)) (l1:List Int):Option (Bool):=if (l1.length:Int)=(Za.length:Int) then(ebbtideref07_Within.l0 k l1 0 Zc Zb Za) else(some false)
set_option maxHeartbeats 8000000 in
set_option maxRecDepth 100000 in
theorem ebbtideref07_Within.calls (k:Nat) (Zc:Int) (Zb:Bool) (Ze:Option Addr) (Zd:Nat) (Za:List (S74)) (A1:Option Addr) (c1:Nat) (l1:List Int) (r:Bool) (w:World) (Zr:Kd.C k74 w Ze Za.length Za) (Zs:Za.length≤Zd) (hr1:Kd.C (Kd.int .i64) w A1 l1.length l1) (hc1:l1.length≤c1) (h:ebbtideref07_Within.f k Zc Zb Za l1=some r):
  Calls Try.prog 102 #[.agg #[.int .i64 Zc, .bool Zb, .slice Ze Za.length Zd], .slice A1 l1.length c1] w fun e w'=>e= .returned (.bool r)∧Below w.heap.size w w':=by
 have hu24:=Try.underlying24;have Zl:=Ya Zr;have Zv:=Ya Zs;clear Zr Zs;have HR1:=Ya hr1;have HC1:=Ya hc1;clear hr1 hc1;have HB:=Ya (Yo w.heap.size w);have H:(if (l1.length:Int)=(Za.length:Int) then(ebbtideref07_Within.l0 k l1 0 Zc Zb Za) else(some false))=some r:=h;clear h;by_cases c3:(l1.length:Int)=(Za.length:Int)
 rotate_left
 ·rw[Yy c3] at H
  have c3b0:((l1.length:Int) == (Za.length:Int))=false:=beq_eq_false_iff_ne.mpr c3;have c3b1:((l1.length:Int) != (Za.length:Int))=true:=bne_iff_ne.mpr c3;have c3b2:(l1.length == Za.length)=false:=by first|simpa using c3|(simp at c3 ⊢;omega)
  obtain rfl:=Option.some.inj H;go_enter Try.func102,Try.ntmps102;go_wp2_with (first|((with_reducible refine gate_dst (N:=2) rfl ?_);refine Yz ?hg (N:=2) ?hd (cs:= #[.int .i64 Zc, .bool Zb, .slice Ze Za.length Zd]) (t:=24) ?hr ?_;(case hd=>rfl);(case hg=>rfl);(case hr=>first|(go_simp;done)|(go_simp;rfl));intro Wf hg w13 Zf hb;have n0_:=Ya (Yk (by repeat(first|(with_reducible first|exact HB.out|apply Ye|apply Yd|apply Yg)|exact HB.out)) hb);have n1_:=Ya (Zf);have n2_:=Ya ((by rw[hg];exact(Yi (by repeat(first|(with_reducible first|exact HB.out|apply Ye|apply Yd|apply Yg)|exact HB.out))):w.heap.size≤Wf));have n3_:=Ya ((by rw[hg];exact(Yi (by repeat(first|(with_reducible first|exact HB.out|apply Ye|apply Yd|apply Yg)|exact HB.out))):w.heap.size≤Wf));clear HB;have HB:=n0_;have Xp:=n1_;have GW159:=n2_;have GE159:=n3_;clear n0_ n1_ n2_ n3_;clear hb Zf hg;have Ug:w13.cell? ⟨Wf,0,none⟩=some (.int .i64 Zc):=(Yc Xp.out 0).trans rfl;have Uh:w13.cell? ⟨Wf,1,none⟩=some (.bool Zb):=(Yc Xp.out 1).trans rfl;have Jz:w13.cell? ⟨Wf,2,none⟩=some (.slice Ze Za.length Zd):=(Yc Xp.out 2).trans rfl;have Ui:=Yf Xp.out 0;have Uj:=Yf Xp.out 1;have hfz14_2:=Yf Xp.out 2));repeat(go_quiet (first|((with_reducible refine gate_dst (N:=2) rfl ?_);refine Yz ?hg (N:=2) ?hd (cs:= #[.int .i64 Zc, .bool Zb, .slice Ze Za.length Zd]) (t:=24) ?hr ?_;(case hd=>rfl);(case hg=>rfl);(case hr=>first|(go_simp;done)|(go_simp;rfl));intro Wf hg w13 Zf hb;have n0_:=Ya (Yk (by repeat(first|(with_reducible first|exact HB.out|apply Ye|apply Yd|apply Yg)|exact HB.out)) hb);have n1_:=Ya (Zf);have n2_:=Ya ((by rw[hg];exact(Yi (by repeat(first|(with_reducible first|exact HB.out|apply Ye|apply Yd|apply Yg)|exact HB.out))):w.heap.size≤Wf));have n3_:=Ya ((by rw[hg];exact(Yi (by repeat(first|(with_reducible first|exact HB.out|apply Ye|apply Yd|apply Yg)|exact HB.out))):w.heap.size≤Wf));clear HB;have HB:=n0_;have Xp:=n1_;have GW159:=n2_;have GE159:=n3_;clear n0_ n1_ n2_ n3_;clear hb Zf hg;have Ug:w13.cell? ⟨Wf,0,none⟩=some (.int .i64 Zc):=(Yc Xp.out 0).trans rfl;have Uh:w13.cell? ⟨Wf,1,none⟩=some (.bool Zb):=(Yc Xp.out 1).trans rfl;have Jz:w13.cell? ⟨Wf,2,none⟩=some (.slice Ze Za.length Zd):=(Yc Xp.out 2).trans rfl;have Ui:=Yf Xp.out 0;have Uj:=Yf Xp.out 1;have hfz14_2:=Yf Xp.out 2));try go_wp2_with (first|((with_reducible refine gate_dst (N:=2) rfl ?_);refine Yz ?hg (N:=2) ?hd (cs:= #[.int .i64 Zc, .bool Zb, .slice Ze Za.length Zd]) (t:=24) ?hr ?_;(case hd=>rfl);(case hg=>rfl);(case hr=>first|(go_simp;done)|(go_simp;rfl));intro Wf hg w13 Zf hb;have n0_:=Ya (Yk (by repeat(first|(with_reducible first|exact HB.out|apply Ye|apply Yd|apply Yg)|exact HB.out)) hb);have n1_:=Ya (Zf);have n2_:=Ya ((by rw[hg];exact(Yi (by repeat(first|(with_reducible first|exact HB.out|apply Ye|apply Yd|apply Yg)|exact HB.out))):w.heap.size≤Wf));have n3_:=Ya ((by rw[hg];exact(Yi (by repeat(first|(with_reducible first|exact HB.out|apply Ye|apply Yd|apply Yg)|exact HB.out))):w.heap.size≤Wf));clear HB;have HB:=n0_;have Xp:=n1_;have GW159:=n2_;have GE159:=n3_;clear n0_ n1_ n2_ n3_;clear hb Zf hg;have Ug:w13.cell? ⟨Wf,0,none⟩=some (.int .i64 Zc):=(Yc Xp.out 0).trans rfl;have Uh:w13.cell? ⟨Wf,1,none⟩=some (.bool Zb):=(Yc Xp.out 1).trans rfl;have Jz:w13.cell? ⟨Wf,2,none⟩=some (.slice Ze Za.length Zd):=(Yc Xp.out 2).trans rfl;have Ui:=Yf Xp.out 0;have Uj:=Yf Xp.out 1;have hfz14_2:=Yf Xp.out 2)))
  go_ret;exact⟨by first|rfl|(simp[errW_none,errW_some]<;>rfl)|(simp[*,errW_none,errW_some]<;>rfl),by repeat(first|(with_reducible first|exact HB.out|apply Ye|apply Yd|apply Yg|refine Yh ?_ GE159.out)|exact HB.out)⟩
 rw[Yx c3] at H;have c3b0:((l1.length:Int) == (Za.length:Int))=true:=beq_iff_eq.mpr c3;have c3b1:((l1.length:Int) != (Za.length:Int))=false:=bne_eq_false_iff_eq.mpr c3;have c3b2:(l1.length == Za.length)=true:=by first|simpa using c3|(simp at c3 ⊢;omega)
 clear c3;have H':=Ya H;clear H;go_enter Try.func102,Try.ntmps102;go_wp2_with (first|((with_reducible refine gate_dst (N:=2) rfl ?_);refine Yz ?hg (N:=2) ?hd (cs:= #[.int .i64 Zc, .bool Zb, .slice Ze Za.length Zd]) (t:=24) ?hr ?_;(case hd=>rfl);(case hg=>rfl);(case hr=>first|(go_simp;done)|(go_simp;rfl));intro Wf hg w4 Zf hb;have n0_:=Ya (Yk (by repeat(first|(with_reducible first|exact HB.out|apply Ye|apply Yd|apply Yg)|exact HB.out)) hb);have n1_:=Ya (Zf);have n2_:=Ya ((by rw[hg];exact(Yi (by repeat(first|(with_reducible first|exact HB.out|apply Ye|apply Yd|apply Yg)|exact HB.out))):w.heap.size≤Wf));have n3_:=Ya ((by rw[hg];exact(Yi (by repeat(first|(with_reducible first|exact HB.out|apply Ye|apply Yd|apply Yg)|exact HB.out))):w.heap.size≤Wf));clear HB;have HB:=n0_;have Xp:=n1_;have GW159:=n2_;have GE159:=n3_;clear n0_ n1_ n2_ n3_;clear hb Zf hg;have hcz5_0:w4.cell? ⟨Wf,0,none⟩=some (.int .i64 Zc):=(Yc Xp.out 0).trans rfl;have hcz5_1:w4.cell? ⟨Wf,1,none⟩=some (.bool Zb):=(Yc Xp.out 1).trans rfl;have hcz5_2:w4.cell? ⟨Wf,2,none⟩=some (.slice Ze Za.length Zd):=(Yc Xp.out 2).trans rfl;have hfz5_0:=Yf Xp.out 0;have hfz5_1:=Yf Xp.out 1;have hfz5_2:=Yf Xp.out 2));repeat(go_quiet (first|((with_reducible refine gate_dst (N:=2) rfl ?_);refine Yz ?hg (N:=2) ?hd (cs:= #[.int .i64 Zc, .bool Zb, .slice Ze Za.length Zd]) (t:=24) ?hr ?_;(case hd=>rfl);(case hg=>rfl);(case hr=>first|(go_simp;done)|(go_simp;rfl));intro Wf hg w4 Zf hb;have n0_:=Ya (Yk (by repeat(first|(with_reducible first|exact HB.out|apply Ye|apply Yd|apply Yg)|exact HB.out)) hb);have n1_:=Ya (Zf);have n2_:=Ya ((by rw[hg];exact(Yi (by repeat(first|(with_reducible first|exact HB.out|apply Ye|apply Yd|apply Yg)|exact HB.out))):w.heap.size≤Wf));have n3_:=Ya ((by rw[hg];exact(Yi (by repeat(first|(with_reducible first|exact HB.out|apply Ye|apply Yd|apply Yg)|exact HB.out))):w.heap.size≤Wf));clear HB;have HB:=n0_;have Xp:=n1_;have GW159:=n2_;have GE159:=n3_;clear n0_ n1_ n2_ n3_;clear hb Zf hg;have hcz5_0:w4.cell? ⟨Wf,0,none⟩=some (.int .i64 Zc):=(Yc Xp.out 0).trans rfl;have hcz5_1:w4.cell? ⟨Wf,1,none⟩=some (.bool Zb):=(Yc Xp.out 1).trans rfl;have hcz5_2:w4.cell? ⟨Wf,2,none⟩=some (.slice Ze Za.length Zd):=(Yc Xp.out 2).trans rfl;have hfz5_0:=Yf Xp.out 0;have hfz5_1:=Yf Xp.out 1;have hfz5_2:=Yf Xp.out 2));try go_wp2_with (first|((with_reducible refine gate_dst (N:=2) rfl ?_);refine Yz ?hg (N:=2) ?hd (cs:= #[.int .i64 Zc, .bool Zb, .slice Ze Za.length Zd]) (t:=24) ?hr ?_;(case hd=>rfl);(case hg=>rfl);(case hr=>first|(go_simp;done)|(go_simp;rfl));intro Wf hg w4 Zf hb;have n0_:=Ya (Yk (by repeat(first|(with_reducible first|exact HB.out|apply Ye|apply Yd|apply Yg)|exact HB.out)) hb);have n1_:=Ya (Zf);have n2_:=Ya ((by rw[hg];exact(Yi (by repeat(first|(with_reducible first|exact HB.out|apply Ye|apply Yd|apply Yg)|exact HB.out))):w.heap.size≤Wf));have n3_:=Ya ((by rw[hg];exact(Yi (by repeat(first|(with_reducible first|exact HB.out|apply Ye|apply Yd|apply Yg)|exact HB.out))):w.heap.size≤Wf));clear HB;have HB:=n0_;have Xp:=n1_;have GW159:=n2_;have GE159:=n3_;clear n0_ n1_ n2_ n3_;clear hb Zf hg;have hcz5_0:w4.cell? ⟨Wf,0,none⟩=some (.int .i64 Zc):=(Yc Xp.out 0).trans rfl;have hcz5_1:w4.cell? ⟨Wf,1,none⟩=some (.bool Zb):=(Yc Xp.out 1).trans rfl;have hcz5_2:w4.cell? ⟨Wf,2,none⟩=some (.slice Ze Za.length Zd):=(Yc Xp.out 2).trans rfl;have hfz5_0:=Yf Xp.out 0;have hfz5_1:=Yf Xp.out 1;have hfz5_2:=Yf Xp.out 2)))
 go_loopg [5] k (fun kq v5 w'=> ∃ (Zt:Int),v5= .int .i64 Zt∧Aside0 (ebbtideref07_Within.l0 kq l1 Zt Zc Zb Za=some r)∧Aside0 (kq≤k)∧Aside0 (w'.heap[Wf]? =some (.cells #[.int .i64 Zc, .bool Zb,(.slice Ze Za.length Zd)] 24 (0,0)))∧Aside0 (Below w.heap.size w w'))
 case atStart=>exact⟨(0),(by first|rfl|(simp;done)|(simp[*];done)),H',⟨Nat.le_refl _⟩,⟨by(with_reducible repeat(first|refine Yl ?_ _|refine Ym ?_|refine Yj ?_ _));exact Xp.out⟩,⟨by repeat(first|(with_reducible first|exact HB.out|apply Ye|apply Yd|apply Yg|refine Yh ?_ GE159.out)|exact HB.out)⟩⟩
 case round=>
  clear H';try clear c1
  try clear p2
  try clear c3
  try clear c3b0
  try clear c3b1
  try clear c3b2
  try clear hcz5_0
  try clear hcz5_1
  try clear hcz5_2
  try clear hfz5_0
  try clear hfz5_1
  try clear hfz5_2
  obtain⟨Zt,rfl,HA,HK1,Xp,HB⟩:=hrel;cases gk with
  |zero=>exact absurd HA.out (by simp[ebbtideref07_Within.l0])
  |succ k1=>
   have H:=HA.out;clear HA;simp only[ebbtideref07_Within.l0] at H;by_cases c6:Zt<(l1.length:Int)
   rotate_left
   ·rw[Yy c6] at H
    have c6b0:decide (Zt<(l1.length:Int))=false:=Yw c6;clear c6;obtain rfl:=Option.some.inj H;go_wp2;repeat(go_quiet (fail);try go_wp2)
    go_ret;exact⟨by first|rfl|(simp[errW_none,errW_some]<;>rfl)|(simp[*,errW_none,errW_some]<;>rfl),by repeat(first|(with_reducible first|exact HB.out|apply Ye|apply Yd|apply Yg|refine Yh ?_ GE159.out)|exact HB.out)⟩
   rw[Yx c6] at H;have c6b0:decide (Zt<(l1.length:Int))=true:=Yv c6;clear c6;by_cases c7:0≤Zt
   rotate_left
   ·rw[Yy c7] at H
    exact absurd H (by simp)
   rw[Yx c7] at H;have c7b0:decide (0≤Zt)=true:=Yv c7;clear c7;by_cases c8:(rd l1 Zt)<0
   ·rw[Yx c8] at H
    have c8b0:decide ((rd l1 Zt)<0)=true:=Yv c8;clear c8;obtain rfl:=Option.some.inj H;have p160:0≤(Zt:Int):=Yu (by first|(with_reducible assumption)|assumption);have q160:Zt<(l1.length:Int):=Yu (by first|(with_reducible assumption)|assumption);obtain⟨ad160,e160,hx160_0⟩:=Kd.at_int HR1.out Zt p160 q160;cases e160;replace hx160_0:=(HB.out.cell (Yb w _ hx160_0)).trans hx160_0;replace p160:=eq_true p160;replace q160:=eq_true q160;go_wp2;repeat(go_quiet (fail);try go_wp2)
    go_ret;exact⟨by first|rfl|(simp[errW_none,errW_some]<;>rfl)|(simp[*,errW_none,errW_some]<;>rfl),by repeat(first|(with_reducible first|exact HB.out|apply Ye|apply Yd|apply Yg|refine Yh ?_ GE159.out)|exact HB.out)⟩
   rw[Yy c8] at H;have c8b0:decide ((rd l1 Zt)<0)=false:=Yw c8;clear c8;by_cases c9:Zt<(Za.length:Int)
   rotate_left
   ·rw[Yy c9] at H
    exact absurd H (by simp)
   rw[Yx c9] at H;have c9b0:decide (Zt<(Za.length:Int))=true:=Yv c9;clear c9;by_cases c10:(rd l1 Zt)>((rd_T74 Za Zt).f2)
   ·rw[Yx c10] at H
    have c10b0:decide (((rd_T74 Za Zt).f2)<(rd l1 Zt))=true:=Yv c10;clear c10;obtain rfl:=Option.some.inj H;have p160:0≤(Zt:Int):=Yu (by first|(with_reducible assumption)|assumption);have q160:Zt<(l1.length:Int):=Yu (by first|(with_reducible assumption)|assumption);obtain⟨ad160,e160,hx160_0⟩:=Kd.at_int HR1.out Zt p160 q160;cases e160;replace hx160_0:=(HB.out.cell (Yb w _ hx160_0)).trans hx160_0;replace p160:=eq_true p160;replace q160:=eq_true q160;have p161:0≤(Zt:Int):=Yu (by first|(with_reducible assumption)|assumption);have q161:Zt<(l1.length:Int):=Yu (by first|(with_reducible assumption)|assumption);obtain⟨ad161,e161,hx161_0⟩:=Kd.at_int HR1.out Zt p161 q161;obtain rfl:ad160=ad161:=(by injection e161);replace hx161_0:=(HB.out.cell (Yb w _ hx161_0)).trans hx161_0;replace p161:=eq_true p161;replace q161:=eq_true q161;have hcz11_0:wr.cell? ⟨Wf,0,none⟩=some (.int .i64 Zc):=(Yc Xp.out 0).trans rfl;have hcz11_1:wr.cell? ⟨Wf,1,none⟩=some (.bool Zb):=(Yc Xp.out 1).trans rfl;have hcz11_2:wr.cell? ⟨Wf,2,none⟩=some (.slice Ze Za.length Zd):=(Yc Xp.out 2).trans rfl;have hfz11_0:=Yf Xp.out 0;have hfz11_1:=Yf Xp.out 1;have hfz11_2:=Yf Xp.out 2;have p162:0≤(Zt:Int):=Yu (by first|(with_reducible assumption)|assumption);have q162:Zt<(Za.length:Int):=Yu (by first|(with_reducible assumption)|assumption);obtain⟨ad162,e162,hx162_0,hx162_1,hx162_2,hx162_3⟩:=at_T74 Zl.out Zt p162 q162;cases e162;replace hx162_0:=(HB.out.cell (Yb w _ hx162_0)).trans hx162_0;replace hx162_1:=(HB.out.cell (Yb w _ hx162_1)).trans hx162_1;replace hx162_2:=(HB.out.cell (Yb w _ hx162_2)).trans hx162_2;replace hx162_3:=(HB.out.cell (Yb w _ hx162_3)).trans hx162_3;replace p162:=eq_true p162;replace q162:=eq_true q162;go_wp2;repeat(go_quiet (fail);try go_wp2)
    go_ret;exact⟨by first|rfl|(simp[errW_none,errW_some]<;>rfl)|(simp[*,errW_none,errW_some]<;>rfl),by repeat(first|(with_reducible first|exact HB.out|apply Ye|apply Yd|apply Yg|refine Yh ?_ GE159.out)|exact HB.out)⟩
   rw[Yy c10] at H;have c10b0:decide (((rd_T74 Za Zt).f2)<(rd l1 Zt))=false:=Yw c10;clear c10;have H':=Ya H;clear H;have p160:0≤(Zt:Int):=Yu (by first|(with_reducible assumption)|assumption);have q160:Zt<(l1.length:Int):=Yu (by first|(with_reducible assumption)|assumption);obtain⟨ad160,e160,hx160_0⟩:=Kd.at_int HR1.out Zt p160 q160;cases e160;replace hx160_0:=(HB.out.cell (Yb w _ hx160_0)).trans hx160_0;replace p160:=eq_true p160;replace q160:=eq_true q160;have p161:0≤(Zt:Int):=Yu (by first|(with_reducible assumption)|assumption);have q161:Zt<(l1.length:Int):=Yu (by first|(with_reducible assumption)|assumption);obtain⟨ad161,e161,hx161_0⟩:=Kd.at_int HR1.out Zt p161 q161;obtain rfl:ad160=ad161:=(by injection e161);replace hx161_0:=(HB.out.cell (Yb w _ hx161_0)).trans hx161_0;replace p161:=eq_true p161;replace q161:=eq_true q161;have hcz12_0:wr.cell? ⟨Wf,0,none⟩=some (.int .i64 Zc):=(Yc Xp.out 0).trans rfl;have hcz12_1:wr.cell? ⟨Wf,1,none⟩=some (.bool Zb):=(Yc Xp.out 1).trans rfl;have hcz12_2:wr.cell? ⟨Wf,2,none⟩=some (.slice Ze Za.length Zd):=(Yc Xp.out 2).trans rfl;have hfz12_0:=Yf Xp.out 0;have hfz12_1:=Yf Xp.out 1;have hfz12_2:=Yf Xp.out 2;have p162:0≤(Zt:Int):=Yu (by first|(with_reducible assumption)|assumption);have q162:Zt<(Za.length:Int):=Yu (by first|(with_reducible assumption)|assumption);obtain⟨ad162,e162,hx162_0,hx162_1,hx162_2,hx162_3⟩:=at_T74 Zl.out Zt p162 q162;cases e162;replace hx162_0:=(HB.out.cell (Yb w _ hx162_0)).trans hx162_0;replace hx162_1:=(HB.out.cell (Yb w _ hx162_1)).trans hx162_1;replace hx162_2:=(HB.out.cell (Yb w _ hx162_2)).trans hx162_2;replace hx162_3:=(HB.out.cell (Yb w _ hx162_3)).trans hx162_3;replace p162:=eq_true p162;replace q162:=eq_true q162;go_wp2;repeat(go_quiet (fail);try go_wp2)
   go_roundg k1
   case measure=>have:=HK1.out;omega
   case rel=>exact⟨(wrap64 (Zt+1)),(by first|rfl|(simp;done)|(simp[*];done)),H',⟨by have:=HK1.out;omega⟩,⟨by(with_reducible repeat(first|refine Yl ?_ _|refine Ym ?_|refine Yj ?_ _));exact Xp.out⟩,⟨by repeat(first|(with_reducible first|exact HB.out|apply Ye|apply Yd|apply Yg|refine Yh ?_ GE159.out)|exact HB.out)⟩⟩
end P
namespace Q
open P
def arcErr (n:Int) (a:S74):Int:=
 if a.f0<0∨a.f1<0∨a.f2<0∨a.f3<0∨n≤a.f0∨n≤a.f1 then 51 else if 1048576<a.f2∨1048576<a.f3 then 2 else 0
def arcsErr (n:Int):List S74→Int
 |[]=>0
 |a::l=>if arcErr n a=0 then arcsErr n l else arcErr n a
def netErr (n:Int) (l:List S74):Int:=if n<1 then 51 else if n>50 then 2 else if (l.length:Int)>200 then 2 else arcsErr n l
structure ArcOk (n:Int) (a:S74):Prop where
 f0:0≤a.f0
 f1:0≤a.f1
 f2:0≤a.f2
 f3:0≤a.f3
 h0:a.f0<n
 h1:a.f1<n
 h2:a.f2≤1048576
 h3:a.f3≤1048576
structure NetOk (n:Int) (l:List S74):Prop where
 lo:1≤n
 hi:n≤50
 len:l.length≤200
 arcs: ∀ a∈l,ArcOk n a
theorem arcErr_ok {n:Int} {a:S74} (h:arcErr n a=0):ArcOk n a:=by
 unfold arcErr at h;split at h
 ·omega
 ·split at h
  ·omega
  ·constructor<;>omega
theorem arcsErr_ok {n:Int} : ∀ {l:List S74},arcsErr n l=0→ ∀ a∈l,ArcOk n a
 |[],_,a,ha=>by cases ha
 |b::l,h,a,ha=>by
  unfold arcsErr at h;split at h
  ·rename_i hb
   rcases List.mem_cons.1 ha with rfl|ha
   ·exact arcErr_ok hb
   ·exact arcsErr_ok h a ha
  ·exact absurd h (by assumption)
theorem netErr_ok {n:Int} {l:List S74} (h:netErr n l=0):NetOk n l:=by
 unfold netErr at h;split at h
 ·omega
 ·split at h
  ·omega
  ·split at h
   ·omega
   ·exact⟨by omega,by omega,by omega,arcsErr_ok h⟩
theorem arcOk_err {n:Int} {a:S74} (h:ArcOk n a):arcErr n a=0:=by
 have:=h.f0;have:=h.f1;have:=h.f2;have:=h.f3;have:=h.h0;have:=h.h1;have:=h.h2;have:=h.h3;unfold arcErr;rw[Yy (by omega),Yy (by omega)]
theorem arcsOk_err {n:Int} : ∀ {l:List S74},(∀ a∈l,ArcOk n a)→arcsErr n l=0
 |[],_=>rfl
 |b::l,h=>by
  unfold arcsErr;rw[Yx (arcOk_err (h b (List.mem_cons_self ..)))];exact arcsOk_err fun a ha=>h a (List.mem_cons_of_mem _ ha)
theorem netOk_err {n:Int} {l:List S74} (h:NetOk n l):netErr n l=0:=by
 have:=h.lo;have:=h.hi;have:=h.len;unfold netErr;rw[Yy (by omega),Yy (by omega),Yy (by omega),arcsOk_err h.arcs]
theorem NetOk.at_ {n:Int} {l:List S74} (h:NetOk n l) {i:Int} (h0:0≤i) (h1:i<l.length):ArcOk n (rd_T74 l i):=h.arcs _ (getD_mem (by omega))
theorem nodes_eq (n:Int):netfmt_nodes.f n=some (if n<1 then 51 else if n>50 then 2 else 0):=by
 unfold netfmt_nodes.f;split
 ·rfl
 ·split<;>rfl
theorem arc_ev (n:Int) (a:S74):Ev (fun k=>netfmt_arc.f k n a.f0 a.f1 a.f2 a.f3) (arcErr n a):=by
 unfold netfmt_arc.f arcErr;refine Ev.ite (fun h=> ?_) (fun h=> ?_)
 ·refine Ev.succ ?_;simp only[netfmt_arc.j0]
  repeat(first|exact Ev.now _|with_reducible refine Ev.pos (by first|assumption|omega) ?_|with_reducible refine Ev.neg (by first|assumption|omega) ?_|with_reducible refine Ev.let_ ?_)
  exact Ev.done (by unfold mn at h;rw[Yx (by omega)])
 ·refine Ev.succ ?_;simp only[netfmt_arc.j0]
  unfold mn at h;unfold mx;refine Ev.ite (fun g=> ?_) (fun g=> ?_)
  ·have g:=Yu g
   exact Ev.done (by rw[Yx (by omega)])
  ·have g:=of_decide_eq_false (Bool.eq_false_iff.2 g)
   refine Ev.ite (fun g1=> ?_) (fun g1=> ?_)
   ·exact Ev.done (by rw[Yy (by omega),Yx (by omega)])
   ·refine Ev.ite (fun g2=> ?_) (fun g2=> ?_)
    ·exact Ev.done (by rw[Yy (by omega),Yx (by omega)])
    ·exact Ev.done (by rw[Yy (by omega),Yy (by omega)])
theorem check_l0 (l:List S74) (n:Int) (b:Bool) (hl:l.length≤9223372036854775807) (d:Nat): ∀ i:Nat,i+d=l.length→
  Ev (fun k=>netfmt_Check.l0 k l (l.length:Int) (i:Int) n b l) (arcsErr n (l.drop i)):=by
 induction d with
 |zero=>
  intro i hi;refine Ev.succ ?_;simp only[netfmt_Check.l0];repeat(first|exact Ev.now _|with_reducible refine Ev.pos (by first|assumption|omega) ?_|with_reducible refine Ev.neg (by first|assumption|omega) ?_|with_reducible refine Ev.let_ ?_)
  rw[List.drop_of_length_le (by omega)];exact Ev.now _
 |succ d ih=>
  intro i hi;refine Ev.succ ?_;simp only[netfmt_Check.l0];repeat(first|exact Ev.now _|with_reducible refine Ev.pos (by first|assumption|omega) ?_|with_reducible refine Ev.neg (by first|assumption|omega) ?_|with_reducible refine Ev.let_ ?_)
  refine Ev.bind (arc_ev n (rd_T74 l i)) ?_;rw[drop_getD l i z74 (by omega)];have hr:rd_T74 l (i:Int)=l.getD i z74:=by unfold rd_T74;rw[Int.toNat_natCast]
  rw[hr];unfold arcsErr;refine Ev.ite (fun h=> ?_) (fun h=> ?_)
  ·rw[Yx h,wrap_succ (n:=l.length) (by omega) hl]
   exact ih (i+1) (by omega)
  ·rw[Yy h]
   exact Ev.now _
theorem check_ev (n:Int) (b:Bool) (l:List S74):Ev (fun k=>netfmt_Check.f k n b l) (netErr n l):=by
 unfold netfmt_Check.f netErr;refine Ev.call (nodes_eq n) ?_;by_cases h:n<1
 ·rw[Yx h,Yx h]
  repeat(first|exact Ev.now _|with_reducible refine Ev.pos (by first|assumption|omega) ?_|with_reducible refine Ev.neg (by first|assumption|omega) ?_|with_reducible refine Ev.let_ ?_)
 ·rw[Yy h,Yy h]
  by_cases h2:n>50
  ·rw[Yx h2,Yx h2]
   repeat(first|exact Ev.now _|with_reducible refine Ev.pos (by first|assumption|omega) ?_|with_reducible refine Ev.neg (by first|assumption|omega) ?_|with_reducible refine Ev.let_ ?_)
  ·rw[Yy h2,Yy h2]
   repeat(first|exact Ev.now _|with_reducible refine Ev.pos (by first|assumption|omega) ?_|with_reducible refine Ev.neg (by first|assumption|omega) ?_|with_reducible refine Ev.let_ ?_)
   refine Ev.ite (fun g=> ?_) (fun g=> ?_)
   ·rw[Yx g]
    exact Ev.now _
   ·rw[Yy g]
    exact check_l0 l n b (by omega) l.length 0 (by omega)
theorem ref_nodes_eq (n:Int):ebbtideref05_nodes.f n=some (if n<1 then 51 else if n>50 then 2 else 0):=by
 unfold ebbtideref05_nodes.f;split
 ·rfl
 ·split<;>rfl
theorem ref_arc_j0 (x:Bool) (n:Int) (a:S74) (hx:x=true↔a.f0<0∨a.f1<0∨a.f2<0∨a.f3<0∨n≤a.f0∨n≤a.f1):Ev (fun k=>ebbtideref05_Arc.j0 k x a.f0 a.f1 a.f2 a.f3) (arcErr n a):=by
 unfold arcErr;refine Ev.succ ?_;simp only[ebbtideref05_Arc.j0];refine Ev.ite (fun g=> ?_) (fun g=> ?_)
 ·exact Ev.done (by rw[Yx (hx.1 g)])
 ·have g':=fun h=>g (hx.2 h)
  refine Ev.ite (fun g1=> ?_) (fun g1=> ?_)
  ·exact Ev.done (by rw[Yy g',Yx (by omega)])
  ·refine Ev.ite (fun g2=> ?_) (fun g2=> ?_)
   ·exact Ev.done (by rw[Yy g',Yx (by omega)])
   ·exact Ev.done (by rw[Yy g',Yy (by omega)])
theorem ref_arc_ev (n:Int) (a:S74):Ev (fun k=>ebbtideref05_Arc.f k n a.f0 a.f1 a.f2 a.f3) (arcErr n a):=by
 unfold ebbtideref05_Arc.f;refine Ev.ite (fun h=> ?_) (fun h=> ?_)
 ·exact ref_arc_j0 _ _ _ ⟨fun _=>by omega,fun _=>rfl⟩
 refine Ev.ite (fun h=> ?_) (fun h=> ?_)
 ·exact ref_arc_j0 _ _ _ ⟨fun _=>by omega,fun _=>rfl⟩
 refine Ev.ite (fun h=> ?_) (fun h=> ?_)
 ·exact ref_arc_j0 _ _ _ ⟨fun _=>by omega,fun _=>rfl⟩
 refine Ev.ite (fun h=> ?_) (fun h=> ?_)
 ·exact ref_arc_j0 _ _ _ ⟨fun _=>by omega,fun _=>rfl⟩
 refine Ev.ite (fun h=> ?_) (fun h=> ?_)
 ·exact ref_arc_j0 _ _ _ ⟨fun _=>by omega,fun _=>rfl⟩
 ·exact ref_arc_j0 _ _ _ ⟨fun g=>by have:=Yu g;omega,fun g=>Yv (by omega)⟩
theorem ref_check_l0 (l:List S74) (n:Int) (b:Bool) (hl:l.length≤9223372036854775807) (d:Nat): ∀ i:Nat,i+d=l.length→
  Ev (fun k=>ebbtideref05_Check.l0 k (i:Int) n b l) (arcsErr n (l.drop i)):=by
 induction d with
 |zero=>
  intro i hi;refine Ev.succ ?_;simp only[ebbtideref05_Check.l0];repeat(first|exact Ev.now _|with_reducible refine Ev.pos (by first|assumption|omega) ?_|with_reducible refine Ev.neg (by first|assumption|omega) ?_|with_reducible refine Ev.let_ ?_)
  rw[List.drop_of_length_le (by omega)];exact Ev.now _
 |succ d ih=>
  intro i hi;refine Ev.succ ?_;simp only[ebbtideref05_Check.l0];repeat(first|exact Ev.now _|with_reducible refine Ev.pos (by first|assumption|omega) ?_|with_reducible refine Ev.neg (by first|assumption|omega) ?_|with_reducible refine Ev.let_ ?_)
  refine Ev.bind (ref_arc_ev n (rd_T74 l i)) ?_;rw[drop_getD l i z74 (by omega)];have hr:rd_T74 l (i:Int)=l.getD i z74:=by unfold rd_T74;rw[Int.toNat_natCast]
  rw[hr];unfold arcsErr;refine Ev.ite (fun h=> ?_) (fun h=> ?_)
  ·rw[Yx h,wrap_succ (n:=l.length) (by omega) hl]
   exact ih (i+1) (by omega)
  ·rw[Yy h]
   exact Ev.now _
theorem ref_check_ev (n:Int) (b:Bool) (l:List S74):Ev (fun k=>ebbtideref05_Check.f k n b l) (netErr n l):=by
 unfold ebbtideref05_Check.f netErr;refine Ev.call (ref_nodes_eq n) ?_;by_cases h:n<1
 ·rw[Yx h,Yx h]
  repeat(first|exact Ev.now _|with_reducible refine Ev.pos (by first|assumption|omega) ?_|with_reducible refine Ev.neg (by first|assumption|omega) ?_|with_reducible refine Ev.let_ ?_)
 ·rw[Yy h,Yy h]
  by_cases h2:n>50
  ·rw[Yx h2,Yx h2]
   repeat(first|exact Ev.now _|with_reducible refine Ev.pos (by first|assumption|omega) ?_|with_reducible refine Ev.neg (by first|assumption|omega) ?_|with_reducible refine Ev.let_ ?_)
  ·rw[Yy h2,Yy h2]
   repeat(first|exact Ev.now _|with_reducible refine Ev.pos (by first|assumption|omega) ?_|with_reducible refine Ev.neg (by first|assumption|omega) ?_|with_reducible refine Ev.let_ ?_)
   refine Ev.ite (fun g=> ?_) (fun g=> ?_)
   ·rw[Yx g]
    exact Ev.now _
   ·rw[Yy g]
    exact ref_check_l0 l n b (by omega) l.length 0 (by omega)
end Q
namespace P
attribute [local go_sem] max2_int min2_int max_two min_two max_three min_three max_four min_four
def ebbtideref06_Node.f (Zc:Int) (Zb:Bool) (Za:List (S74)) (a1:Int):Option (Bool):=if a1≥0 then(some (decide (a1<Zc))) else(some false)
set_option maxHeartbeats 8000000 in
set_option maxRecDepth 100000 in
theorem ebbtideref06_Node.calls (Zc:Int) (Zb:Bool) (Ze:Option Addr) (Zd:Nat) (Za:List (S74)) (a1:Int) (r:Bool) (w:World) (Zr:Kd.C k74 w Ze Za.length Za) (Zs:Za.length≤Zd) (h:ebbtideref06_Node.f Zc Zb Za a1=some r):
  Calls Try.prog 99 #[.agg #[.int .i64 Zc, .bool Zb, .slice Ze Za.length Zd], .int .i64 a1] w fun e w'=>e= .returned (.bool r)∧Below w.heap.size w w':=by
 have hu24:=Try.underlying24;have Zl:=Ya Zr;have Zv:=Ya Zs;clear Zr Zs;have HB:=Ya (Yo w.heap.size w);have H:(if a1≥0 then(some (decide (a1<Zc))) else(some false))=some r:=h;clear h;by_cases c3:a1≥0
 rotate_left
 ·rw[Yy c3] at H
  have c3b0:decide (0≤a1)=false:=Yw c3;clear c3;obtain rfl:=Option.some.inj H;go_enter Try.func99,Try.ntmps99;go_wp2_with (first|((with_reducible refine gate_dst (N:=2) rfl ?_);refine Yz ?hg (N:=2) ?hd (cs:= #[.int .i64 Zc, .bool Zb, .slice Ze Za.length Zd]) (t:=24) ?hr ?_;(case hd=>rfl);(case hg=>rfl);(case hr=>first|(go_simp;done)|(go_simp;rfl));intro gb166 hg w6 Zf hb;have n0_:=Ya (Yk (by repeat(first|(with_reducible first|exact HB.out|apply Ye|apply Yd|apply Yg)|exact HB.out)) hb);have n1_:=Ya (Zf);have n2_:=Ya ((by rw[hg];exact(Yi (by repeat(first|(with_reducible first|exact HB.out|apply Ye|apply Yd|apply Yg)|exact HB.out))):w.heap.size≤gb166));have n3_:=Ya ((by rw[hg];exact(Yi (by repeat(first|(with_reducible first|exact HB.out|apply Ye|apply Yd|apply Yg)|exact HB.out))):w.heap.size≤gb166));clear HB;have HB:=n0_;have BK166:=n1_;have GW166:=n2_;have GE166:=n3_;clear n0_ n1_ n2_ n3_;clear hb Zf hg));go_ret;exact⟨by first|rfl|(simp[errW_none,errW_some]<;>rfl)|(simp[*,errW_none,errW_some]<;>rfl),by repeat(first|(with_reducible first|exact HB.out|apply Ye|apply Yd|apply Yg|refine Yh ?_ GE166.out)|exact HB.out)⟩
 rw[Yx c3] at H;have c3b0:decide (0≤a1)=true:=Yv c3;clear c3;obtain rfl:=Option.some.inj H;go_enter Try.func99,Try.ntmps99;go_wp2_with (first|((with_reducible refine gate_dst (N:=2) rfl ?_);refine Yz ?hg (N:=2) ?hd (cs:= #[.int .i64 Zc, .bool Zb, .slice Ze Za.length Zd]) (t:=24) ?hr ?_;(case hd=>rfl);(case hg=>rfl);(case hr=>first|(go_simp;done)|(go_simp;rfl));intro gb166 hg w4 Zf hb;have n0_:=Ya (Yk (by repeat(first|(with_reducible first|exact HB.out|apply Ye|apply Yd|apply Yg)|exact HB.out)) hb);have n1_:=Ya (Zf);have n2_:=Ya ((by rw[hg];exact(Yi (by repeat(first|(with_reducible first|exact HB.out|apply Ye|apply Yd|apply Yg)|exact HB.out))):w.heap.size≤gb166));have n3_:=Ya ((by rw[hg];exact(Yi (by repeat(first|(with_reducible first|exact HB.out|apply Ye|apply Yd|apply Yg)|exact HB.out))):w.heap.size≤gb166));clear HB;have HB:=n0_;have BK166:=n1_;have GW166:=n2_;have GE166:=n3_;clear n0_ n1_ n2_ n3_;clear hb Zf hg;have hcz5_0:w4.cell? ⟨gb166,0,none⟩=some (.int .i64 Zc):=(Yc BK166.out 0).trans rfl;have hcz5_1:w4.cell? ⟨gb166,1,none⟩=some (.bool Zb):=(Yc BK166.out 1).trans rfl;have hcz5_2:w4.cell? ⟨gb166,2,none⟩=some (.slice Ze Za.length Zd):=(Yc BK166.out 2).trans rfl;have hfz5_0:=Yf BK166.out 0;have hfz5_1:=Yf BK166.out 1;have hfz5_2:=Yf BK166.out 2));go_ret;exact⟨by first|rfl|(simp[errW_none,errW_some]<;>rfl)|(simp[*,errW_none,errW_some]<;>rfl),by repeat(first|(with_reducible first|exact HB.out|apply Ye|apply Yd|apply Yg|refine Yh ?_ GE166.out)|exact HB.out)⟩
end P
namespace P
attribute [local go_sem] max2_int min2_int max_two min_two max_three min_three max_four min_four
def ebbtideref07_Asked.f (k:Nat) (Zc:Int) (Zb:Bool) (Za:List (S74)) (l1:List Int):Option (Int):=(ebbtideref05_Check.f k Zc Zb Za).bind fun t164=>(if t164=0 then((ebbtideref07_Within.f k Zc Zb Za l1).bind fun t165=>(if t165=true then(some 0) else(some 71))) else(some t164))
set_option maxHeartbeats 8000000 in
set_option maxRecDepth 100000 in
theorem ebbtideref07_Asked.calls (k:Nat) (Zc:Int) (Zb:Bool) (Ze:Option Addr) (Zd:Nat) (Za:List (S74)) (A1:Option Addr) (c1:Nat) (l1:List Int) (r:Int) (w:World) (Zr:Kd.C k74 w Ze Za.length Za) (Zs:Za.length≤Zd) (hr1:Kd.C (Kd.int .i64) w A1 l1.length l1) (hc1:l1.length≤c1) (h:ebbtideref07_Asked.f k Zc Zb Za l1=some r):
  Calls Try.prog 98 #[.agg #[.int .i64 Zc, .bool Zb, .slice Ze Za.length Zd], .slice A1 l1.length c1] w fun e w'=>e= .returned (.int .i64 r)∧Below w.heap.size w w':=by
 have hu24:=Try.underlying24;have Zl:=Ya Zr;have Zv:=Ya Zs;clear Zr Zs;have HR1:=Ya hr1;have HC1:=Ya hc1;clear hr1 hc1;have HB:=Ya (Yo w.heap.size w);have H:((ebbtideref05_Check.f k Zc Zb Za).bind fun t164=>(if t164=0 then((ebbtideref07_Within.f k Zc Zb Za l1).bind fun t165=>(if t165=true then(some 0) else(some 71))) else(some t164)))=some r:=h;clear h;replace H:=Option.bind_eq_some_iff.mp H;obtain⟨t164,A30,H⟩:=H;replace H:(if t164=0 then((ebbtideref07_Within.f k Zc Zb Za l1).bind fun t165=>(if t165=true then(some 0) else(some 71))) else(some t164))=some r:=H;have A3:=Ya A30;clear A30;by_cases c4:t164=0
 rotate_left
 ·rw[Yy c4] at H
  have c4b0:(t164 == 0)=false:=beq_eq_false_iff_ne.mpr c4;have c4b1:(t164 != 0)=true:=bne_iff_ne.mpr c4;obtain rfl:=Option.some.inj H;go_enter Try.func98,Try.ntmps98;go_wp2_with (first|((with_reducible refine gate_dst (N:=2) rfl ?_);refine Yz ?hg (N:=2) ?hd (cs:= #[.int .i64 Zc, .bool Zb, .slice Ze Za.length Zd]) (t:=24) ?hr ?_;(case hd=>rfl);(case hg=>rfl);(case hr=>first|(go_simp;done)|(go_simp;rfl));intro Vr hg w17 Zf hb;have n0_:=Ya (Yk (by repeat(first|(with_reducible first|exact HB.out|apply Ye|apply Yd|apply Yg)|exact HB.out)) hb);have n1_:=Ya (Zf);have n2_:=Ya ((by rw[hg];exact(Yi (by repeat(first|(with_reducible first|exact HB.out|apply Ye|apply Yd|apply Yg)|exact HB.out))):w.heap.size≤Vr));have n3_:=Ya ((by rw[hg];exact(Yi (by repeat(first|(with_reducible first|exact HB.out|apply Ye|apply Yd|apply Yg)|exact HB.out))):w.heap.size≤Vr));clear HB;have HB:=n0_;have Xy:=n1_;have GW163:=n2_;have GE163:=n3_;clear n0_ n1_ n2_ n3_;clear hb Zf hg;have hcz18_0:w17.cell? ⟨Vr,0,none⟩=some (.int .i64 Zc):=(Yc Xy.out 0).trans rfl;have hcz18_1:w17.cell? ⟨Vr,1,none⟩=some (.bool Zb):=(Yc Xy.out 1).trans rfl;have hcz18_2:w17.cell? ⟨Vr,2,none⟩=some (.slice Ze Za.length Zd):=(Yc Xy.out 2).trans rfl;have hfz18_0:=Yf Xy.out 0;have hfz18_1:=Yf Xy.out 1;have hfz18_2:=Yf Xy.out 2)|((with_reducible refine gate_callee (f:=78) rfl ?_);refine goesL_ (some 7) rfl rfl Try.func78 (by kernel_rfl) rfl #[.agg #[.int .i64 Zc, .bool Zb, .slice Ze Za.length Zd]] rfl (by(try simp only[List.map_toArray,List.map_cons,List.map_nil]);first|done|rfl|(simp only[List.length_drop,List.length_take];rfl)) ?_;(with_reducible refine(ebbtideref05_Check.calls k Zc Zb _ _ Za t164 _ ?side1 ?side2 A3.out).mono ?_);(case side1=>repeat(first|exact(Yt Zl.out HB.out)|(with_reducible refine Kd.C_alloc ?_ _)|(with_reducible refine Kd.C_drewN ?_ _)|(with_reducible refine Kd.C_drew ?_)));(case side2=>exact Zv.out);rintro e w19 ⟨rfl,hb⟩;refine⟨_,rfl,?_⟩;have n0_:=Ya (Yn (g:=Vr) (o:= .cells #[.int .i64 Zc, .bool Zb, .slice Ze Za.length Zd] 24 (0,0)) (by(with_reducible repeat(first|refine Yl ?_ _|refine Ym ?_|refine Yj ?_ _));exact Xy.out) hb);have n1_:=Ya (Yk (by repeat(first|(with_reducible first|exact HB.out|apply Ye|apply Yd|apply Yg|refine Yh ?_ GE163.out)|exact HB.out)) hb);clear Xy;clear HB;have Xy:=n0_;have HB:=n1_;clear n0_ n1_;(try clear hb);(try clear hb2);(try clear hk);(try clear hi)));go_ret;exact⟨by first|rfl|(simp[errW_none,errW_some]<;>rfl)|(simp[*,errW_none,errW_some]<;>rfl),by repeat(first|(with_reducible first|exact HB.out|apply Ye|apply Yd|apply Yg|refine Yh ?_ GE163.out)|exact HB.out)⟩
 rw[Yx c4] at H;have c4b0:(t164 == 0)=true:=beq_iff_eq.mpr c4;have c4b1:(t164 != 0)=false:=bne_eq_false_iff_eq.mpr c4;clear c4;replace H:=Option.bind_eq_some_iff.mp H;obtain⟨t165,A50,H⟩:=H;replace H:(if t165=true then(some 0) else(some 71))=some r:=H;have A5:=Ya A50;clear A50;by_cases c6:t165=true
 ·subst c6
  have H1:(some 0)=some r:=by first|(rw[Yx rfl] at H;exact H)|(rw[Yx trivial] at H;exact H)
  clear H;have H:=H1;clear H1;obtain rfl:=Option.some.inj H;go_enter Try.func98,Try.ntmps98;go_wp2_with (first|((with_reducible refine gate_dst (N:=2) rfl ?_);refine Yz ?hg (N:=2) ?hd (cs:= #[.int .i64 Zc, .bool Zb, .slice Ze Za.length Zd]) (t:=24) ?hr ?_;(case hd=>rfl);(case hg=>rfl);(case hr=>first|(go_simp;done)|(go_simp;rfl));intro Vr hg w7 Zf hb;have n0_:=Ya (Yk (by repeat(first|(with_reducible first|exact HB.out|apply Ye|apply Yd|apply Yg)|exact HB.out)) hb);have n1_:=Ya (Zf);have n2_:=Ya ((by rw[hg];exact(Yi (by repeat(first|(with_reducible first|exact HB.out|apply Ye|apply Yd|apply Yg)|exact HB.out))):w.heap.size≤Vr));have n3_:=Ya ((by rw[hg];exact(Yi (by repeat(first|(with_reducible first|exact HB.out|apply Ye|apply Yd|apply Yg)|exact HB.out))):w.heap.size≤Vr));clear HB;have HB:=n0_;have Xy:=n1_;have GW163:=n2_;have GE163:=n3_;clear n0_ n1_ n2_ n3_;clear hb Zf hg;have hcz8_0:w7.cell? ⟨Vr,0,none⟩=some (.int .i64 Zc):=(Yc Xy.out 0).trans rfl;have hcz8_1:w7.cell? ⟨Vr,1,none⟩=some (.bool Zb):=(Yc Xy.out 1).trans rfl;have hcz8_2:w7.cell? ⟨Vr,2,none⟩=some (.slice Ze Za.length Zd):=(Yc Xy.out 2).trans rfl;have hfz8_0:=Yf Xy.out 0;have hfz8_1:=Yf Xy.out 1;have hfz8_2:=Yf Xy.out 2)|((with_reducible refine gate_callee (f:=78) rfl ?_);refine goesL_ (some 7) rfl rfl Try.func78 (by kernel_rfl) rfl #[.agg #[.int .i64 Zc, .bool Zb, .slice Ze Za.length Zd]] rfl (by(try simp only[List.map_toArray,List.map_cons,List.map_nil]);first|done|rfl|(simp only[List.length_drop,List.length_take];rfl)) ?_;(with_reducible refine(ebbtideref05_Check.calls k Zc Zb _ _ Za t164 _ ?side1 ?side2 A3.out).mono ?_);(case side1=>repeat(first|exact(Yt Zl.out HB.out)|(with_reducible refine Kd.C_alloc ?_ _)|(with_reducible refine Kd.C_drewN ?_ _)|(with_reducible refine Kd.C_drew ?_)));(case side2=>exact Zv.out);rintro e w9 ⟨rfl,hb⟩;refine⟨_,rfl,?_⟩;have n0_:=Ya (Yn (g:=Vr) (o:= .cells #[.int .i64 Zc, .bool Zb, .slice Ze Za.length Zd] 24 (0,0)) (by(with_reducible repeat(first|refine Yl ?_ _|refine Ym ?_|refine Yj ?_ _));exact Xy.out) hb);have n1_:=Ya (Yk (by repeat(first|(with_reducible first|exact HB.out|apply Ye|apply Yd|apply Yg|refine Yh ?_ GE163.out)|exact HB.out)) hb);clear Xy;clear HB;have Xy:=n0_;have HB:=n1_;clear n0_ n1_;(try clear hb);(try clear hb2);(try clear hk);(try clear hi);have Vs:w9.cell? ⟨Vr,0,none⟩=some (.int .i64 Zc):=(Yc Xy.out 0).trans rfl;have Vt:w9.cell? ⟨Vr,1,none⟩=some (.bool Zb):=(Yc Xy.out 1).trans rfl;have Jq:w9.cell? ⟨Vr,2,none⟩=some (.slice Ze Za.length Zd):=(Yc Xy.out 2).trans rfl;have Vu:=Yf Xy.out 0;have Vv:=Yf Xy.out 1;have Jr:=Yf Xy.out 2)|((with_reducible refine gate_callee (f:=102) rfl ?_);refine goesL_ (some 13) rfl rfl Try.func102 (by kernel_rfl) rfl #[.agg #[.int .i64 Zc, .bool Zb, .slice Ze Za.length Zd], .slice A1 l1.length c1] rfl (by(try simp only[List.map_toArray,List.map_cons,List.map_nil]);first|done|rfl|(simp only[List.length_drop,List.length_take];rfl)) ?_;(with_reducible refine(ebbtideref07_Within.calls k Zc Zb _ _ Za _ _ l1 true _ ?side1 ?side2 ?side3 ?side4 A5.out).mono ?_);(case side1=>repeat(first|exact(Yt Zl.out HB.out)|(with_reducible refine Kd.C_alloc ?_ _)|(with_reducible refine Kd.C_drewN ?_ _)|(with_reducible refine Kd.C_drew ?_)));(case side2=>exact Zv.out);(case side3=>repeat(first|exact(Yt HR1.out HB.out)|(with_reducible refine Kd.C_alloc ?_ _)|(with_reducible refine Kd.C_drewN ?_ _)|(with_reducible refine Kd.C_drew ?_)));(case side4=>exact HC1.out);rintro e w11 ⟨rfl,hb⟩;refine⟨_,rfl,?_⟩;have n0_:=Ya (Yn (g:=Vr) (o:= .cells #[.int .i64 Zc, .bool Zb, .slice Ze Za.length Zd] 24 (0,0)) (by(with_reducible repeat(first|refine Yl ?_ _|refine Ym ?_|refine Yj ?_ _));exact Xy.out) hb);have n1_:=Ya (Yk (by repeat(first|(with_reducible first|exact HB.out|apply Ye|apply Yd|apply Yg|refine Yh ?_ GE163.out)|exact HB.out)) hb);clear Xy;clear HB;have Xy:=n0_;have HB:=n1_;clear n0_ n1_;(try clear hb);(try clear hb2);(try clear hk);(try clear hi)));go_ret;exact⟨by first|rfl|(simp[errW_none,errW_some]<;>rfl)|(simp[*,errW_none,errW_some]<;>rfl),by repeat(first|(with_reducible first|exact HB.out|apply Ye|apply Yd|apply Yg|refine Yh ?_ GE163.out)|exact HB.out)⟩
 replace c6:=Bool.eq_false_iff.mpr c6;subst c6;have H1:(some 71)=some r:=by rw[Yy (show ¬ (false=true) by decide)] at H;exact H
 clear H;have H:=H1;clear H1;obtain rfl:=Option.some.inj H;go_enter Try.func98,Try.ntmps98;go_wp2_with (first|((with_reducible refine gate_dst (N:=2) rfl ?_);refine Yz ?hg (N:=2) ?hd (cs:= #[.int .i64 Zc, .bool Zb, .slice Ze Za.length Zd]) (t:=24) ?hr ?_;(case hd=>rfl);(case hg=>rfl);(case hr=>first|(go_simp;done)|(go_simp;rfl));intro Vr hg w12 Zf hb;have n0_:=Ya (Yk (by repeat(first|(with_reducible first|exact HB.out|apply Ye|apply Yd|apply Yg)|exact HB.out)) hb);have n1_:=Ya (Zf);have n2_:=Ya ((by rw[hg];exact(Yi (by repeat(first|(with_reducible first|exact HB.out|apply Ye|apply Yd|apply Yg)|exact HB.out))):w.heap.size≤Vr));have n3_:=Ya ((by rw[hg];exact(Yi (by repeat(first|(with_reducible first|exact HB.out|apply Ye|apply Yd|apply Yg)|exact HB.out))):w.heap.size≤Vr));clear HB;have HB:=n0_;have Xy:=n1_;have GW163:=n2_;have GE163:=n3_;clear n0_ n1_ n2_ n3_;clear hb Zf hg;have hcz13_0:w12.cell? ⟨Vr,0,none⟩=some (.int .i64 Zc):=(Yc Xy.out 0).trans rfl;have hcz13_1:w12.cell? ⟨Vr,1,none⟩=some (.bool Zb):=(Yc Xy.out 1).trans rfl;have hcz13_2:w12.cell? ⟨Vr,2,none⟩=some (.slice Ze Za.length Zd):=(Yc Xy.out 2).trans rfl;have hfz13_0:=Yf Xy.out 0;have hfz13_1:=Yf Xy.out 1;have hfz13_2:=Yf Xy.out 2)|((with_reducible refine gate_callee (f:=78) rfl ?_);refine goesL_ (some 7) rfl rfl Try.func78 (by kernel_rfl) rfl #[.agg #[.int .i64 Zc, .bool Zb, .slice Ze Za.length Zd]] rfl (by(try simp only[List.map_toArray,List.map_cons,List.map_nil]);first|done|rfl|(simp only[List.length_drop,List.length_take];rfl)) ?_;(with_reducible refine(ebbtideref05_Check.calls k Zc Zb _ _ Za t164 _ ?side1 ?side2 A3.out).mono ?_);(case side1=>repeat(first|exact(Yt Zl.out HB.out)|(with_reducible refine Kd.C_alloc ?_ _)|(with_reducible refine Kd.C_drewN ?_ _)|(with_reducible refine Kd.C_drew ?_)));(case side2=>exact Zv.out);rintro e w14 ⟨rfl,hb⟩;refine⟨_,rfl,?_⟩;have n0_:=Ya (Yn (g:=Vr) (o:= .cells #[.int .i64 Zc, .bool Zb, .slice Ze Za.length Zd] 24 (0,0)) (by(with_reducible repeat(first|refine Yl ?_ _|refine Ym ?_|refine Yj ?_ _));exact Xy.out) hb);have n1_:=Ya (Yk (by repeat(first|(with_reducible first|exact HB.out|apply Ye|apply Yd|apply Yg|refine Yh ?_ GE163.out)|exact HB.out)) hb);clear Xy;clear HB;have Xy:=n0_;have HB:=n1_;clear n0_ n1_;(try clear hb);(try clear hb2);(try clear hk);(try clear hi);have hcz15_0:w14.cell? ⟨Vr,0,none⟩=some (.int .i64 Zc):=(Yc Xy.out 0).trans rfl;have hcz15_1:w14.cell? ⟨Vr,1,none⟩=some (.bool Zb):=(Yc Xy.out 1).trans rfl;have hcz15_2:w14.cell? ⟨Vr,2,none⟩=some (.slice Ze Za.length Zd):=(Yc Xy.out 2).trans rfl;have hfz15_0:=Yf Xy.out 0;have hfz15_1:=Yf Xy.out 1;have hfz15_2:=Yf Xy.out 2)|((with_reducible refine gate_callee (f:=102) rfl ?_);refine goesL_ (some 13) rfl rfl Try.func102 (by kernel_rfl) rfl #[.agg #[.int .i64 Zc, .bool Zb, .slice Ze Za.length Zd], .slice A1 l1.length c1] rfl (by(try simp only[List.map_toArray,List.map_cons,List.map_nil]);first|done|rfl|(simp only[List.length_drop,List.length_take];rfl)) ?_;(with_reducible refine(ebbtideref07_Within.calls k Zc Zb _ _ Za _ _ l1 false _ ?side1 ?side2 ?side3 ?side4 A5.out).mono ?_);(case side1=>repeat(first|exact(Yt Zl.out HB.out)|(with_reducible refine Kd.C_alloc ?_ _)|(with_reducible refine Kd.C_drewN ?_ _)|(with_reducible refine Kd.C_drew ?_)));(case side2=>exact Zv.out);(case side3=>repeat(first|exact(Yt HR1.out HB.out)|(with_reducible refine Kd.C_alloc ?_ _)|(with_reducible refine Kd.C_drewN ?_ _)|(with_reducible refine Kd.C_drew ?_)));(case side4=>exact HC1.out);rintro e w16 ⟨rfl,hb⟩;refine⟨_,rfl,?_⟩;have n0_:=Ya (Yn (g:=Vr) (o:= .cells #[.int .i64 Zc, .bool Zb, .slice Ze Za.length Zd] 24 (0,0)) (by(with_reducible repeat(first|refine Yl ?_ _|refine Ym ?_|refine Yj ?_ _));exact Xy.out) hb);have n1_:=Ya (Yk (by repeat(first|(with_reducible first|exact HB.out|apply Ye|apply Yd|apply Yg|refine Yh ?_ GE163.out)|exact HB.out)) hb);clear Xy;clear HB;have Xy:=n0_;have HB:=n1_;clear n0_ n1_;(try clear hb);(try clear hb2);(try clear hk);(try clear hi)));go_ret;exact⟨by first|rfl|(simp[errW_none,errW_some]<;>rfl)|(simp[*,errW_none,errW_some]<;>rfl),by repeat(first|(with_reducible first|exact HB.out|apply Ye|apply Yd|apply Yg|refine Yh ?_ GE163.out)|exact HB.out)⟩
end P
namespace Q
open P
def flowB:List S74→List Int→Bool
 |[],[]=>true
 |a::l,x::f=>if x<0 then false else if x>a.f2 then false else flowB l f
 |_,_=>false
def askErr (n:Int) (l:List S74) (f:List Int):Int:=if netErr n l=0 then(if flowB l f=true then 0 else 71) else netErr n l
structure FlowOk (l:List S74) (f:List Int):Prop where
 len:f.length=l.length
 at_: ∀ i:Nat,i<f.length→0≤rd f i∧rd f i≤(rd_T74 l i).f2
theorem rdArc_nat (l:List S74) (i:Nat):rd_T74 l (i:Int)=l.getD i z74:=by unfold rd_T74;rw[Int.toNat_natCast]
theorem flowB_len: ∀ {l:List S74} {f:List Int},flowB l f=true→f.length=l.length
 |[],[],_=>rfl
 |[],_::_,h=>by simp[flowB] at h
 |_::_,[],h=>by simp[flowB] at h
 |a::l,x::f,h=>by
  unfold flowB at h;split at h
  ·cases h
  ·split at h
   ·cases h
   ·simp[flowB_len h]
theorem flowB_ok: ∀ {l:List S74} {f:List Int},flowB l f=true→ ∀ i:Nat,i<f.length→0≤f.getD i 0∧f.getD i 0≤(l.getD i z74).f2
 |[],[],_,i,hi=>by simp at hi
 |[],_::_,h,_,_=>by simp[flowB] at h
 |_::_,[],h,_,_=>by simp[flowB] at h
 |a::l,x::f,h,i,hi=>by
  unfold flowB at h;split at h
  ·cases h
  ·split at h
   ·cases h
   ·cases i with
    |zero=>simp;omega
    |succ i=>simpa using flowB_ok h i (by simpa using hi)
theorem flow_ok {l:List S74} {f:List Int} (h:flowB l f=true):FlowOk l f:=
 ⟨flowB_len h,fun i hi=>by rw[rd_nat,rdArc_nat];exact flowB_ok h i hi⟩
theorem flow_mk: ∀ {l:List S74} {f:List Int},f.length=l.length→(∀ i:Nat,i<f.length→0≤f.getD i 0∧f.getD i 0≤(l.getD i z74).f2)→flowB l f=true
 |[],[],_,_=>rfl
 |[],_::_,h,_=>by simp at h
 |_::_,[],h,_=>by simp at h
 |a::l,x::f,h,hf=>by
  have h0:=hf 0 (by simp);simp at h0;unfold flowB;rw[Yy (by omega),Yy (by omega)];exact flow_mk (by simpa using h) (fun i hi=>by simpa using hf (i+1) (by simpa using hi))
theorem FlowOk.b {l:List S74} {f:List Int} (h:FlowOk l f):flowB l f=true:=
 flow_mk h.len fun i hi=>by have:=h.at_ i hi;rwa [rd_nat,rdArc_nat] at this
theorem askErr_ok {n:Int} {l:List S74} {f:List Int} (h:askErr n l f=0):NetOk n l∧FlowOk l f:=by
 unfold askErr at h;split at h
 ·split at h
  ·exact⟨netErr_ok (by assumption),flow_ok (by assumption)⟩
  ·omega
 ·exact absurd h (by assumption)
theorem ask_of {n:Int} {l:List S74} {f:List Int} (h:NetOk n l) (hf:FlowOk l f):askErr n l f=0:=by
 unfold askErr;rw[Yx (netOk_err h),Yx hf.b]
theorem flowB_ne {l:List S74} {f:List Int} (h: ¬ ((f.length:Int)=(l.length:Int))): ¬ flowB l f=true:=fun g=>h (by rw[flowB_len g])
theorem within_l0 (l:List S74) (f:List Int) (n:Int) (b:Bool) (hl:l.length≤200) (hf:f.length=l.length) (d:Nat): ∀ i:Nat,i+d=l.length→
  Ev (fun k=>ebbtideref07_Within.l0 k f (i:Int) n b l) (flowB (l.drop i) (f.drop i)):=by
 induction d with
 |zero=>
  intro i hi;refine Ev.succ ?_;simp only[ebbtideref07_Within.l0];repeat(first|exact Ev.now _|with_reducible refine Ev.pos (by first|assumption|omega) ?_|with_reducible refine Ev.neg (by first|assumption|omega) ?_|with_reducible refine Ev.let_ ?_)
  rw[List.drop_of_length_le (by omega),List.drop_of_length_le (by omega)];exact Ev.now _
 |succ d ih=>
  intro i hi;refine Ev.succ ?_;simp only[ebbtideref07_Within.l0];repeat(first|exact Ev.now _|with_reducible refine Ev.pos (by first|assumption|omega) ?_|with_reducible refine Ev.neg (by first|assumption|omega) ?_|with_reducible refine Ev.let_ ?_)
  rw[drop_getD l i z74 (by omega),drop_getD f i 0 (by omega),rdArc_nat,rd_nat];unfold flowB;refine Ev.ite (fun h=> ?_) (fun h=> ?_)
  ·rw[Yx h]
   exact Ev.now _
  ·rw[Yy h]
   repeat(first|exact Ev.now _|with_reducible refine Ev.pos (by first|assumption|omega) ?_|with_reducible refine Ev.neg (by first|assumption|omega) ?_|with_reducible refine Ev.let_ ?_)
   refine Ev.ite (fun g=> ?_) (fun g=> ?_)
   ·rw[Yx g]
    exact Ev.now _
   ·rw[Yy g,wrap_succ (n:=l.length) (by omega) (by omega)]
    exact ih (i+1) (by omega)
theorem within_ev (n:Int) (b:Bool) (l:List S74) (f:List Int) (hl:l.length≤200):Ev (fun k=>ebbtideref07_Within.f k n b l f) (flowB l f):=by
 unfold ebbtideref07_Within.f;refine Ev.ite (fun g=> ?_) (fun g=> ?_)
 ·exact within_l0 l f n b hl (by omega) l.length 0 (by omega)
 ·rw[Bool.eq_false_iff.2 (flowB_ne g)]
  exact Ev.now _
theorem ref_asked_ev (n:Int) (b:Bool) (l:List S74) (f:List Int):Ev (fun k=>ebbtideref07_Asked.f k n b l f) (askErr n l f):=by
 unfold ebbtideref07_Asked.f askErr;refine Ev.bind (ref_check_ev n b l) ?_;refine Ev.ite (fun h=> ?_) (fun h=> ?_)
 ·rw[Yx h]
  refine Ev.bind (within_ev n b l f (netErr_ok h).len) ?_;refine Ev.ite (fun g=> ?_) (fun g=> ?_)
  ·rw[Yx g];exact Ev.now _
  ·rw[Yy g];exact Ev.now _
 ·rw[Yy h]
  exact Ev.now _
theorem node_eq (n:Int) (b:Bool) (l:List S74) (v:Int):ebbtideref06_Node.f n b l v=some (decide (0≤v∧v<n)):=by
 unfold ebbtideref06_Node.f;split
 ·rename_i h
  congr 1;by_cases g:v<n<;>simp[g]<;>omega
 ·rename_i h
  congr 1;symm;exact Yw (by omega)
end Q
namespace Q
open P
def bal:List S74→List Int→Int→Int
 |a::l,x::f,v=>(if a.f0=v then x else 0) - (if a.f1=v then x else 0)+bal l f v
 |_,_,_=>0
theorem bal_cons (a:S74) (l:List S74) (x:Int) (f:List Int) (v:Int):bal (a::l) (x::f) v=(if a.f0=v then x else 0) - (if a.f1=v then x else 0)+bal l f v:=rfl
end Q
end Go.Proofs.Ytkcpanpdipmmmaa
