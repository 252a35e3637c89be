/- What the law's row needs of these texts, taken out of them by wip/tool/mini.py: QSortLaw P21 P23 QLists QStepsLaw QSetLaw QQuietB QSortIns QSymLo QSymHi QSymMid. -/
import Derived.Test.YtkcpanpdipmmmaaMockagm
import Derived.RegionTactic
import Derived.ChangeAlike
import Derived.BigRegion
import Derived.LoopTactic
import Derived.WalkKit
import Derived.Laws.AppendOwn
import Derived.Test.YtkcpanpdipmmmaaVllglef
import Derived.Deep.QuietTactic
import Derived.Deep.RegionWith
import Derived.Deep.RegionHeld3
import Derived.StillTailTactics
set_option linter.unusedVariables false
set_option linter.unusedSimpArgs false
namespace Go.Proofs.Ytkcpanpdipmmmaa.H
open Go.RowKit Go.Proofs.YtkcpanpdipmmmaaW.PrintWords Go.Proofs.YtkcpanpdipmmmaaW.PrintLast Go.Proofs.YtkcpanpdipmmmaaW.PrintMore Go.Proofs.Ytkcpanpdipmmmaa.P
def Le (K:Nat→S38) (a b:Nat):Prop:= ∀ i j,a≤i→i<j→j<b→(K i).f0≤(K j).f0
def Stab (M:Nat→S38) (N:Nat):Prop:= ∀ i j,i<j→j<N→(M i).f0=(M j).f0→(M i).f1=false∧(M j).f1=true
def Small (M:Nat→S38) (N:Nat):Prop:= ∀ i,i<N→0≤(M i).f0∧(M i).f0≤1000000
def Mix (M K:Nat→S38) (a b:Nat):Prop:=
 (∀ x, ¬ (a≤x∧x<b)→K x=M x)∧(∀ x,a≤x→x<b→ ∃ y,a≤y∧y<b∧K x=M y)∧(∀ y,a≤y→y<b→ ∃ x,a≤x∧x<b∧K x=M y)
theorem mix_refl (M:Nat→S38) (a b:Nat):Mix M M a b:=⟨fun _ _=>rfl,fun x h1 h2=>⟨x,h1,h2,rfl⟩,fun x h1 h2=>⟨x,h1,h2,rfl⟩⟩
theorem mix_trans {M K L:Nat→S38} {a b:Nat} (h:Mix M K a b) (k:Mix K L a b):Mix M L a b:=by
 refine⟨fun x hx=>(k.1 x hx).trans (h.1 x hx),fun x h1 h2=> ?_,fun y h1 h2=> ?_⟩
 ·obtain⟨y,h3,h4,e⟩:=k.2.1 x h1 h2
  obtain⟨z,h5,h6,e2⟩:=h.2.1 y h3 h4
  exact⟨z,h5,h6,e.trans e2⟩
 ·obtain⟨x,h3,h4,e⟩:=h.2.2 y h1 h2
  obtain⟨z,h5,h6,e2⟩:=k.2.2 x h3 h4
  exact⟨z,h5,h6,e2.trans e⟩
theorem mix_wide {M K:Nat→S38} {a b a' b':Nat} (h:Mix M K a b) (ha:a'≤a) (hb:b≤b'):Mix M K a' b':=by
 refine⟨fun x hx=>h.1 x (by omega),fun x h1 h2=> ?_,fun y h1 h2=> ?_⟩
 ·by_cases e:a≤x∧x<b
  ·obtain⟨y,h3,h4,e⟩:=h.2.1 x e.1 e.2
   exact⟨y,by omega,by omega,e⟩
  ·exact⟨x,h1,h2,h.1 x e⟩
 ·by_cases e:a≤y∧y<b
  ·obtain⟨x,h3,h4,e⟩:=h.2.2 y e.1 e.2
   exact⟨x,by omega,by omega,e⟩
  ·exact⟨y,h1,h2,h.1 y e⟩
theorem mix_small {M K:Nat→S38} {a b N:Nat} (h:Mix M K a b) (hb:b≤N) (hs:Small M N):Small K N:=fun x hx=>by
 by_cases e:a≤x∧x<b
 ·obtain⟨y,h3,h4,e⟩:=h.2.1 x e.1 e.2
  rw[e];exact hs y (by omega)
 ·rw[h.1 x e];exact hs x hx
def sw (K:Nat→S38) (p x:Nat):S38:=if x=p then K (p+1) else if x=p+1 then K p else K x
theorem sw_put1 (K:Nat→S38) (p x:Nat):upd (upd K (p+1) (K p)) p (K (p+1)) x=sw K p x:=by
 unfold upd sw;rfl
theorem sw_put2 (K:Nat→S38) (p x:Nat):upd (upd K p (K (p+1))) (p+1) (K p) x=sw K p x:=by
 unfold upd sw
 by_cases e:x=p
 ·subst e;rw[if_neg (by omega),if_pos rfl,if_pos rfl]
 ·by_cases e2:x=p+1
  ·rw[if_pos e2,if_neg e,if_pos e2]
  ·rw[if_neg e2,if_neg e,if_neg e,if_neg e2]
theorem sw_at (K:Nat→S38) (p:Nat):sw K p p=K (p+1):=if_pos rfl
theorem sw_at1 (K:Nat→S38) (p:Nat):sw K p (p+1)=K p:=by unfold sw;rw[if_neg (by omega),if_pos rfl]
theorem sw_off (K:Nat→S38) (p x:Nat) (h:x≠p) (h1:x≠p+1):sw K p x=K x:=by unfold sw;rw[if_neg h,if_neg h1]
theorem sw_mix (K:Nat→S38) (p a b:Nat) (ha:a≤p) (hb:p+1<b):Mix K (sw K p) a b:=by
 refine⟨fun x hx=>sw_off K p x (by omega) (by omega),fun x h1 h2=> ?_,fun x h1 h2=> ?_⟩
 ·by_cases e:x=p
  ·subst e;exact⟨x+1,by omega,by omega,sw_at K x⟩
  ·by_cases e2:x=p+1
   ·subst e2;exact⟨p,by omega,by omega,sw_at1 K p⟩
   ·exact⟨x,h1,h2,sw_off K p x e e2⟩
 ·by_cases e:x=p
  ·subst e;exact⟨x+1,by omega,by omega,sw_at1 K x⟩
  ·by_cases e2:x=p+1
   ·subst e2;exact⟨p,by omega,by omega,sw_at K p⟩
   ·exact⟨x,h1,h2,sw_off K p x e e2⟩
theorem sw_stab {K:Nat→S38} {p N:Nat} (h:Stab K N) (hp:p+1<N) (hlt:(K (p+1)).f0<(K p).f0):Stab (sw K p) N:=by
 intro i j hij hj he
 have h0: ∀ x,x=p∨x=p+1∨(x≠p∧x≠p+1):=fun x=>by omega
 rcases h0 i with rfl|rfl|⟨i1,i2⟩<;>rcases h0 j with e|e|⟨j1,j2⟩
 ·omega
 ·subst e;rw[sw_at,sw_at1] at he;omega
 ·rw[sw_at,sw_off _ _ _ j1 j2] at he ⊢;exact h _ _ (by omega) hj he
 ·omega
 ·omega
 ·rw[sw_at1,sw_off _ _ _ j1 j2] at he ⊢;exact h _ _ (by omega) hj he
 ·subst e;rw[sw_at,sw_off _ _ _ i1 i2] at he ⊢;exact h _ _ (by omega) (by omega) he
 ·subst e;rw[sw_at1,sw_off _ _ _ i1 i2] at he ⊢;exact h _ _ (by omega) (by omega) he
 ·rw[sw_off _ _ _ i1 i2,sw_off _ _ _ j1 j2] at he ⊢;exact h _ _ hij hj he
def Hole (K:Nat→S38) (a k j:Nat):Prop:=
 (∀ x y,a≤x→x<y→y≤k→x≠j→y≠j→(K x).f0≤(K y).f0)∧(∀ y,j<y→y≤k→(K j).f0≤(K y).f0)
theorem hole_start {K:Nat→S38} {a k:Nat} (h:Le K a k):Hole K a k k:=⟨fun x y h1 h2 h3 h4 h5=>h x y h1 h2 (by omega),fun y h1 h2=>by omega⟩
theorem hole_stop {K:Nat→S38} {a k j:Nat} (h:Hole K a k j) (hj:j=a∨(a<j∧(K (j - 1)).f0≤(K j).f0)):Le K a (k+1):=by
 intro x y h1 h2 h3
 by_cases e1:x=j
 ·subst e1;exact h.2 y h2 (by omega)
 ·by_cases e2:y=j
  ·subst e2
   rcases hj with hj|⟨hj,hle⟩
   ·omega
   ·by_cases e3:x=y - 1
    ·subst e3;exact hle
    ·exact Int.le_trans (h.1 x (y - 1) h1 (by omega) (by omega) e1 (by omega)) hle
  ·exact h.1 x y h1 h2 (by omega) e1 e2
theorem hole_swap {K:Nat→S38} {a k p:Nat} (h:Hole K a k (p+1)) (ha:a≤p) (hk:p+1≤k) (hlt:(K (p+1)).f0<(K p).f0):Hole (sw K p) a k p:=by
 refine⟨fun x y h1 h2 h3 h4 h5=> ?_,fun y h1 h2=> ?_⟩
 ·by_cases e1:x=p+1
  ·subst e1;rw[sw_at1,sw_off _ _ _ h5 (by omega)];exact h.1 p y (by omega) (by omega) h3 (by omega) (by omega)
  ·by_cases e2:y=p+1
   ·subst e2;rw[sw_at1,sw_off _ _ _ h4 e1];exact h.1 x p h1 (by omega) (by omega) e1 (by omega)
   ·rw[sw_off _ _ _ h4 e1,sw_off _ _ _ h5 e2];exact h.1 x y h1 h2 h3 e1 e2
 ·rw[sw_at]
  by_cases e2:y=p+1
  ·subst e2;rw[sw_at1];omega
  ·rw[sw_off _ _ _ (by omega) e2];exact h.2 y (by omega) h2
def Sorted (M K:Nat→S38) (N a b:Nat):Prop:=Mix M K a b∧Stab K N∧Small K N∧Le K a b
theorem le_one (K:Nat→S38) (a b:Nat) (h:b≤a+1):Le K a b:=fun i j h1 h2 h3=>by omega
theorem rot_lo (M:Nat→S38) {s m e x:Nat} (h1:s≤x) (h2:x<s+(e - m)) (h3:m≤e) (h4:s≤m):rotM M s m e x=M (x+(m - s)):=by
 unfold rotM;rw[if_pos (by omega),if_pos h2]
theorem rot_hi (M:Nat→S38) {s m e x:Nat} (h1:s+(e - m)≤x) (h2:x<e) (h4:s≤m):rotM M s m e x=M (x - (e - m)):=by
 unfold rotM;rw[if_pos (by omega),if_neg (by omega)]
theorem rot_off (M:Nat→S38) {s m e x:Nat} (h: ¬ (s≤x∧x<e)):rotM M s m e x=M x:=by
 unfold rotM;rw[if_neg h]
theorem rot_mix (M:Nat→S38) {s m e:Nat} (h1:s≤m) (h2:m≤e):Mix M (rotM M s m e) s e:=by
 refine⟨fun x hx=>rot_off M hx,fun x h3 h4=> ?_,fun x h3 h4=> ?_⟩
 ·by_cases c:x<s+(e - m)
  ·exact⟨x+(m - s),by omega,by omega,rot_lo M h3 c h2 h1⟩
  ·exact⟨x - (e - m),by omega,by omega,rot_hi M (by omega) h4 h1⟩
 ·by_cases c:x<m
  ·refine⟨x+(e - m),by omega,by omega,?_⟩
   rw[rot_hi M (by omega) (by omega) h1];congr 1;omega
  ·refine⟨x - (m - s),by omega,by omega,?_⟩
   rw[rot_lo M (by omega) (by omega) h2 h1];congr 1;omega
theorem rot_stab {M:Nat→S38} {N s m e:Nat} (h:Stab M N) (h1:s≤m) (h2:m≤e) (he:e≤N) (hc: ∀ x y,s≤x→x<m→m≤y→y<e→(M y).f0<(M x).f0):Stab (rotM M s m e) N:=by
 intro i j hij hj heq
 have h0: ∀ x, ¬ (s≤x∧x<e)∨(s≤x∧x<s+(e - m))∨(s+(e - m)≤x∧x<e):=fun x=>by omega
 rcases h0 i with a1|⟨a1,a2⟩|⟨a1,a2⟩<;>rcases h0 j with b1|⟨b1,b2⟩|⟨b1,b2⟩
 ·rw[rot_off M a1,rot_off M b1] at heq ⊢;exact h _ _ hij hj heq
 ·rw[rot_off M a1,rot_lo M b1 b2 h2 h1] at heq ⊢;exact h _ _ (by omega) (by omega) heq
 ·rw[rot_off M a1,rot_hi M b1 b2 h1] at heq ⊢;exact h _ _ (by omega) (by omega) heq
 ·rw[rot_lo M a1 a2 h2 h1,rot_off M b1] at heq ⊢;exact h _ _ (by omega) (by omega) heq
 ·rw[rot_lo M a1 a2 h2 h1,rot_lo M b1 b2 h2 h1] at heq ⊢;exact h _ _ (by omega) (by omega) heq
 ·rw[rot_lo M a1 a2 h2 h1,rot_hi M b1 b2 h1] at heq;have:=hc (j - (e - m)) (i+(m - s)) (by omega) (by omega) (by omega) (by omega);omega
 ·rw[rot_hi M a1 a2 h1,rot_off M b1] at heq ⊢;exact h _ _ (by omega) (by omega) heq
 ·omega
 ·rw[rot_hi M a1 a2 h1,rot_hi M b1 b2 h1] at heq ⊢;exact h _ _ (by omega) (by omega) heq
theorem rot_none (M:Nat→S38) {s m e:Nat} (h1:s≤m) (h2:m≤e) (h:s=m∨m=e) (x:Nat):rotM M s m e x=M x:=by
 by_cases c:s≤x∧x<e
 ·rcases h with h|h
  ·subst h;rw[rot_lo M c.1 (by omega) h2 h1];congr 1;omega
  ·subst h;rw[rot_hi M (by omega) c.2 h1];congr 1;omega
 ·exact rot_off M c
theorem le_le {K:Nat→S38} {a b x y:Nat} (h:Le K a b) (h1:a≤x) (h2:x≤y) (h3:y<b):(K x).f0≤(K y).f0:=by
 by_cases e:x=y
 ·subst e;exact Int.le_refl _
 ·exact h x y h1 (by omega) h3
theorem le_join {K:Nat→S38} {a m b:Nat} (h1:Le K a m) (h2:Le K m b) (hc: ∀ x y,a≤x→x<m→m≤y→y<b→(K x).f0≤(K y).f0):Le K a b:=by
 intro i j hi hij hj
 by_cases e:j<m
 ·exact h1 i j hi hij e
 ·by_cases e2:i<m
  ·exact hc i j hi e2 (by omega) hj
  ·exact h2 i j (by omega) hij hj
theorem rot_one_lo {M:Nat→S38} {a b i:Nat} (h:Le M (a+1) b) (h1:a+1≤i) (h2:i≤b) (hlt: ∀ y,a+1≤y→y<i→(M y).f0<(M a).f0) (hge: ∀ y,i≤y→y<b→(M a).f0≤(M y).f0):Le (rotM M a (a+1) i) a b:=by
 have lo: ∀ x,a≤x→x+1<i→rotM M a (a+1) i x=M (x+1):=fun x h3 h4=>by rw[rot_lo M h3 (by omega) h1 (by omega)];congr 1;omega
 have at_:rotM M a (a+1) i (i - 1)=M a:=by rw[rot_hi M (by omega) (by omega) (by omega)];congr 1;omega
 have hi: ∀ x,i≤x→rotM M a (a+1) i x=M x:=fun x h3=>rot_off M (by omega)
 intro x y h3 h4 h5
 by_cases c1:x+1<i
 ·rw[lo x h3 c1]
  by_cases c2:y+1<i
  ·rw[lo y (by omega) c2];exact h _ _ (by omega) (by omega) (by omega)
  ·by_cases c3:y=i - 1
   ·subst c3;rw[at_];have:=hlt (x+1) (by omega) c1;omega
   ·rw[hi y (by omega)];exact h _ _ (by omega) (by omega) (by omega)
 ·by_cases c2:x=i - 1
  ·subst c2;rw[at_,hi y (by omega)];exact hge y (by omega) h5
  ·rw[hi x (by omega),hi y (by omega)];exact h _ _ (by omega) h4 h5
theorem rot_one_hi {M:Nat→S38} {a m i:Nat} (h:Le M a m) (h1:a≤i) (h2:i≤m) (hle: ∀ y,a≤y→y<i→(M y).f0≤(M m).f0) (hgt: ∀ y,i≤y→y<m→(M m).f0<(M y).f0):Le (rotM M i m (m+1)) a (m+1):=by
 have lo: ∀ x,x<i→rotM M i m (m+1) x=M x:=fun x h3=>rot_off M (by omega)
 have at_:rotM M i m (m+1) i=M m:=by rw[rot_lo M (Nat.le_refl _) (by omega) (by omega) h2];congr 1;omega
 have hi: ∀ x,i<x→x<m+1→rotM M i m (m+1) x=M (x - 1):=fun x h3 h4=>by rw[rot_hi M (by omega) h4 h2];congr 1;omega
 intro x y h3 h4 h5
 by_cases c1:x<i
 ·rw[lo x c1]
  by_cases c2:y<i
  ·rw[lo y c2];exact h _ _ h3 h4 (by omega)
  ·by_cases c3:y=i
   ·subst c3;rw[at_];exact hle x h3 c1
   ·rw[hi y (by omega) h5];exact h _ _ h3 (by omega) (by omega)
 ·by_cases c2:x=i
  ·subst c2;rw[at_,hi y h4 h5];have:=hgt (y - 1) (by omega) (by omega);omega
  ·rw[hi x (by omega) (by omega),hi y (by omega) h5];exact h _ _ (by omega) (by omega) (by omega)
theorem sym_rot {M:Nat→S38} {a m b mid s e N:Nat} (h1:Le M a m) (h2:Le M m b) (has:a≤s) (hsm:s≤m) (hme:m≤e) (heb:e≤b) (hsum:s+e=mid+m) (hsmid:s≤mid) (hmide:mid≤e)
  (hge:a<s→e<b→(M (s - 1)).f0≤(M e).f0) (hlt:s<m→m<e→(M (e - 1)).f0<(M s).f0) (hst:Stab M N) (hb:b≤N):
  Stab (rotM M s m e) N∧Le (rotM M s m e) a s∧Le (rotM M s m e) s mid∧Le (rotM M s m e) mid e∧Le (rotM M s m e) e b∧ ∀ x y,a≤x→x<mid→mid≤y→y<b→(rotM M s m e x).f0≤(rotM M s m e y).f0:=by
 have hx: ∀ x y,s≤x→x<m→m≤y→y<e→(M y).f0<(M x).f0:=fun x y h3 h4 h5 h6=>by
  have k1:=hlt (by omega) (by omega)
  have k2:(M y).f0≤(M (e - 1)).f0:=le_le h2 h5 (by omega) (by omega)
  have k3:(M s).f0≤(M x).f0:=le_le h1 has h3 h4
  omega
 have hy: ∀ x y,a≤x→x<s→e≤y→y<b→(M x).f0≤(M y).f0:=fun x y h3 h4 h5 h6=>by
  have k1:=hge (by omega) (by omega)
  have k2:(M x).f0≤(M (s - 1)).f0:=le_le h1 h3 (by omega) (by omega)
  have k3:(M e).f0≤(M y).f0:=le_le h2 hme h5 h6
  omega
 have p1: ∀ x,x<s→rotM M s m e x=M x:=fun x h=>rot_off M (by omega)
 have p2: ∀ x,s≤x→x<mid→rotM M s m e x=M (x+(m - s)):=fun x h3 h4=>rot_lo M h3 (by omega) hme hsm
 have p3: ∀ x,mid≤x→x<e→rotM M s m e x=M (x - (e - m)):=fun x h3 h4=>rot_hi M (by omega) h4 hsm
 have p4: ∀ x,e≤x→rotM M s m e x=M x:=fun x h=>rot_off M (by omega)
 refine⟨rot_stab hst hsm hme (by omega) hx,?_,?_,?_,?_,?_⟩
 ·intro x y h3 h4 h5;rw[p1 x (by omega),p1 y h5];exact h1 _ _ h3 h4 (by omega)
 ·intro x y h3 h4 h5;rw[p2 x h3 (by omega),p2 y (by omega) h5];exact h2 _ _ (by omega) (by omega) (by omega)
 ·intro x y h3 h4 h5;rw[p3 x h3 (by omega),p3 y (by omega) h5];exact h1 _ _ (by omega) (by omega) (by omega)
 ·intro x y h3 h4 h5;rw[p4 x h3,p4 y (by omega)];exact h2 _ _ (by omega) h4 h5
 ·intro x y h3 h4 h5 h6
  by_cases c1:x<s
  ·rw[p1 x c1]
   by_cases c2:y<e
   ·rw[p3 y h5 c2];exact le_le h1 h3 (by omega) (by omega)
   ·rw[p4 y (by omega)];exact hy x y h3 c1 (by omega) h6
  ·rw[p2 x (by omega) h4]
   by_cases c2:y<e
   ·rw[p3 y h5 c2];exact Int.le_of_lt (hx _ _ (by omega) (by omega) (by omega) (by omega))
   ·rw[p4 y (by omega)];exact le_le h2 (by omega) (by omega) h6
theorem mix_cross {K L:Nat→S38} {a m b:Nat} (hc: ∀ x y,a≤x→x<m→m≤y→y<b→(K x).f0≤(K y).f0) (h:Mix K L a m∨Mix K L m b):
  ∀ x y,a≤x→x<m→m≤y→y<b→(L x).f0≤(L y).f0:=by
 intro x y h1 h2 h3 h4
 rcases h with h|h
 ·obtain⟨z,h5,h6,e⟩:=h.2.1 x h1 h2
  rw[e,h.1 y (by omega)];exact hc z y h5 h6 h3 h4
 ·obtain⟨z,h5,h6,e⟩:=h.2.1 y h3 h4
  rw[e,h.1 x (by omega)];exact hc x z h1 h2 h5 h6
theorem mix_le {K L:Nat→S38} {a b c d:Nat} (h:Mix K L c d) (hd:b≤c∨d≤a) (hl:Le K a b):Le L a b:=fun i j h1 h2 h3=>by
 rw[h.1 i (by omega),h.1 j (by omega)];exact hl i j h1 h2 h3
theorem sw_rot_lo (M:Nat→S38) {a k:Nat} (h:a≤k) (x:Nat):sw (rotM M a (a+1) (k+1)) k x=rotM M a (a+1) (k+2) x:=by
 unfold sw rotM
 by_cases e1:x=k
 ·subst e1;rw[if_pos rfl,if_neg (by omega),if_pos (by omega),if_pos (by omega)];congr 1;omega
 ·rw[if_neg e1]
  by_cases e2:x=k+1
  ·subst e2;rw[if_pos rfl,if_pos (by omega),if_neg (by omega),if_pos (by omega),if_neg (by omega)];congr 1;omega
  ·rw[if_neg e2]
   by_cases e3:a≤x∧x<k
   ·rw[if_pos (by omega),if_pos (by omega),if_pos (by omega),if_pos (by omega)]
   ·rw[if_neg (by omega),if_neg (by omega)]
theorem sw_rot_hi (M:Nat→S38) {k m:Nat} (h:k<m) (x:Nat):sw (rotM M (k+1) m (m+1)) k x=rotM M k m (m+1) x:=by
 unfold sw rotM
 by_cases e1:x=k
 ·subst e1;rw[if_pos rfl,if_pos (by omega),if_pos (by omega),if_pos (by omega),if_pos (by omega)];congr 1;omega
 ·rw[if_neg e1]
  by_cases e2:x=k+1
  ·subst e2;rw[if_pos rfl,if_neg (by omega),if_pos (by omega),if_neg (by omega)];congr 1;omega
  ·rw[if_neg e2]
   by_cases e3:k≤x∧x<m+1
   ·rw[if_pos (by omega),if_neg (by omega),if_pos (by omega),if_neg (by omega)]
   ·rw[if_neg (by omega),if_neg (by omega)]
end Go.Proofs.Ytkcpanpdipmmmaa.H
namespace Go.Proofs.Ytkcpanpdipmmmaa.P
open Go.RowKit Go.Proofs.YtkcpanpdipmmmaaW.PrintWords Go.Proofs.YtkcpanpdipmmmaaW.PrintLast Go.Proofs.YtkcpanpdipmmmaaW.PrintMore
attribute [local go_sem] max2_int min2_int max_two min_two max_three min_three max_four min_four
def adj_from.f (a0_0:Int) (a0_1:Int) (a0_2:Int) (a0_3:Int):Option (Int):=some a0_0
set_option maxHeartbeats 8000000 in
set_option maxRecDepth 100000 in
theorem adj_from.calls (a0_0:Int) (a0_1:Int) (a0_2:Int) (a0_3:Int) (r:Int) (w:World) (h:adj_from.f a0_0 a0_1 a0_2 a0_3=some r):
  Calls Try.prog 160 #[.agg #[.int .i64 a0_0, .int .i64 a0_1, .int .i64 a0_2, .int .i64 a0_3]] w fun e w'=>e= .returned (.int .i64 r)∧Below w.heap.size w w':=by
 have hu74:=Try.underlying74
 have HB:=Aside0.mk (Below.refl w.heap.size w)
 have H:(some a0_0)=some r:=h
 clear h
 obtain rfl:=Option.some.inj H
 go_enter Try.func160,Try.ntmps160
 go_wp2_with (first|((with_reducible refine gate_dst (N:=1) rfl ?_);refine box_event ?hg (N:=1) ?hd (cs:= #[.int .i64 a0_0, .int .i64 a0_1, .int .i64 a0_2, .int .i64 a0_3]) (t:=74) ?hr ?_;(case hd=>rfl);(case hg=>rfl);(case hr=>first|(go_simp;done)|(go_simp;rfl));intro gb192 hg w2 hbox hb;have n0_:=Aside0.mk (below_step (by repeat(first|(with_reducible first|exact HB.out|apply below_alloc|apply pw_below_drewN|apply below_drew1)|exact HB.out)) hb);have n1_:=Aside0.mk (hbox);have n2_:=Aside0.mk ((by rw[hg];exact(below_size (by repeat(first|(with_reducible first|exact HB.out|apply below_alloc|apply pw_below_drewN|apply below_drew1)|exact HB.out))):w.heap.size≤gb192));have n3_:=Aside0.mk ((by rw[hg];exact(below_size (by repeat(first|(with_reducible first|exact HB.out|apply below_alloc|apply pw_below_drewN|apply below_drew1)|exact HB.out))):w.heap.size≤gb192));clear HB;have HB:=n0_;have BK192:=n1_;have GW192:=n2_;have GE192:=n3_;clear n0_ n1_ n2_ n3_;clear hb hbox hg;have hcz3_0:w2.cell? ⟨gb192,0,none⟩=some (.int .i64 a0_0):=(blk_cell BK192.out 0).trans rfl;have hcz3_1:w2.cell? ⟨gb192,1,none⟩=some (.int .i64 a0_1):=(blk_cell BK192.out 1).trans rfl;have hcz3_2:w2.cell? ⟨gb192,2,none⟩=some (.int .i64 a0_2):=(blk_cell BK192.out 2).trans rfl;have hcz3_3:w2.cell? ⟨gb192,3,none⟩=some (.int .i64 a0_3):=(blk_cell BK192.out 3).trans rfl;have hfz3_0:=blk_frozen BK192.out 0;have hfz3_1:=blk_frozen BK192.out 1;have hfz3_2:=blk_frozen BK192.out 2;have hfz3_3:=blk_frozen BK192.out 3))
 go_ret
 exact⟨by first|rfl|(simp[errW_none,errW_some]<;>rfl)|(simp[*,errW_none,errW_some]<;>rfl),by repeat(first|(with_reducible first|exact HB.out|apply below_alloc|apply pw_below_drewN|apply below_drew1|refine below_set ?_ GE192.out)|exact HB.out)⟩
end Go.Proofs.Ytkcpanpdipmmmaa.P
namespace Go.Proofs.Ytkcpanpdipmmmaa.P
open Go.RowKit Go.Proofs.YtkcpanpdipmmmaaW.PrintWords Go.Proofs.YtkcpanpdipmmmaaW.PrintLast Go.Proofs.YtkcpanpdipmmmaaW.PrintMore
attribute [local go_sem] max2_int min2_int max_two min_two max_three min_three max_four min_four
def adj_to.f (a0_0:Int) (a0_1:Int) (a0_2:Int) (a0_3:Int):Option (Int):=some a0_1
set_option maxHeartbeats 8000000 in
set_option maxRecDepth 100000 in
theorem adj_to.calls (a0_0:Int) (a0_1:Int) (a0_2:Int) (a0_3:Int) (r:Int) (w:World) (h:adj_to.f a0_0 a0_1 a0_2 a0_3=some r):
  Calls Try.prog 161 #[.agg #[.int .i64 a0_0, .int .i64 a0_1, .int .i64 a0_2, .int .i64 a0_3]] w fun e w'=>e= .returned (.int .i64 r)∧Below w.heap.size w w':=by
 have hu74:=Try.underlying74
 have HB:=Aside0.mk (Below.refl w.heap.size w)
 have H:(some a0_1)=some r:=h
 clear h
 obtain rfl:=Option.some.inj H
 go_enter Try.func161,Try.ntmps161
 go_wp2_with (first|((with_reducible refine gate_dst (N:=1) rfl ?_);refine box_event ?hg (N:=1) ?hd (cs:= #[.int .i64 a0_0, .int .i64 a0_1, .int .i64 a0_2, .int .i64 a0_3]) (t:=74) ?hr ?_;(case hd=>rfl);(case hg=>rfl);(case hr=>first|(go_simp;done)|(go_simp;rfl));intro gb194 hg w2 hbox hb;have n0_:=Aside0.mk (below_step (by repeat(first|(with_reducible first|exact HB.out|apply below_alloc|apply pw_below_drewN|apply below_drew1)|exact HB.out)) hb);have n1_:=Aside0.mk (hbox);have n2_:=Aside0.mk ((by rw[hg];exact(below_size (by repeat(first|(with_reducible first|exact HB.out|apply below_alloc|apply pw_below_drewN|apply below_drew1)|exact HB.out))):w.heap.size≤gb194));have n3_:=Aside0.mk ((by rw[hg];exact(below_size (by repeat(first|(with_reducible first|exact HB.out|apply below_alloc|apply pw_below_drewN|apply below_drew1)|exact HB.out))):w.heap.size≤gb194));clear HB;have HB:=n0_;have BK194:=n1_;have GW194:=n2_;have GE194:=n3_;clear n0_ n1_ n2_ n3_;clear hb hbox hg;have hcz3_0:w2.cell? ⟨gb194,0,none⟩=some (.int .i64 a0_0):=(blk_cell BK194.out 0).trans rfl;have hcz3_1:w2.cell? ⟨gb194,1,none⟩=some (.int .i64 a0_1):=(blk_cell BK194.out 1).trans rfl;have hcz3_2:w2.cell? ⟨gb194,2,none⟩=some (.int .i64 a0_2):=(blk_cell BK194.out 2).trans rfl;have hcz3_3:w2.cell? ⟨gb194,3,none⟩=some (.int .i64 a0_3):=(blk_cell BK194.out 3).trans rfl;have hfz3_0:=blk_frozen BK194.out 0;have hfz3_1:=blk_frozen BK194.out 1;have hfz3_2:=blk_frozen BK194.out 2;have hfz3_3:=blk_frozen BK194.out 3))
 go_ret
 exact⟨by first|rfl|(simp[errW_none,errW_some]<;>rfl)|(simp[*,errW_none,errW_some]<;>rfl),by repeat(first|(with_reducible first|exact HB.out|apply below_alloc|apply pw_below_drewN|apply below_drew1|refine below_set ?_ GE194.out)|exact HB.out)⟩
end Go.Proofs.Ytkcpanpdipmmmaa.P
namespace Go.Proofs.Ytkcpanpdipmmmaa.H
open Go.RowKit Go.Proofs.YtkcpanpdipmmmaaW.PrintWords Go.Proofs.YtkcpanpdipmmmaaW.PrintLast Go.Proofs.YtkcpanpdipmmmaaW.PrintMore Go.Proofs.Ytkcpanpdipmmmaa.P
theorem infoRow:(Try.prog.info? 25).map (fun i=>(i.zero,i.size,i.bytes))=some (some (.slice none 0 0),1,24):=by kernel_rfl
def eFrom (x:S74):Int:=x.f0
def eTo (x:S74):Int:=x.f1
def lsAt (E:S74→Int) (l:List S74) (n:Nat):Nat→List (List Int)
 |0=>List.replicate n []
 |k+1=>(lsAt E l n k).set (E (rd_T74 l k)).toNat (rd_L7 (lsAt E l n k) (E (rd_T74 l k)) ++ [(k:Int)])
theorem lsAt_len (E:S74→Int) (l:List S74) (n k:Nat):(lsAt E l n k).length=n:=by
 induction k with
 |zero=>exact List.length_replicate
 |succ k ih=>show (List.set _ _ _).length=n;rw[List.length_set,ih]
theorem lsAt_row (E:S74→Int) (l:List S74) (n k:Nat) (i:Int):(rd_L7 (lsAt E l n k) i).length≤k:=by
 induction k generalizing i with
 |zero=>
  unfold rd_L7 lsAt
  rw[List.getD_eq_getElem?_getD,List.getElem?_replicate]
  split<;>simp
 |succ k ih=>
  unfold rd_L7
  show ((List.set _ _ _).getD i.toNat []).length≤k+1
  rw[List.getD_eq_getElem?_getD,List.getElem?_set]
  have hi:=ih i
  unfold rd_L7 at hi
  rw[List.getD_eq_getElem?_getD] at hi
  split
  ·split
   ·have:=ih (E (rd_T74 l k))
    simp only[Option.getD_some,List.length_append,List.length_cons,List.length_nil]
    omega
   ·simp
  ·omega
set_option maxHeartbeats 4000000 in
set_option maxRecDepth 100000 in
theorem listsFrom_calls (a0_0:Int) (a0_1:Bool) (A0_2:Option Addr) (c0_2:Nat) (l0_2:List S74) (w:World) (hr0_2:Kd.C k74 w A0_2 l0_2.length l0_2) (hc0_2:l0_2.length≤c0_2) (h0:0≤a0_0) (h1:a0_0≤1000000) (hl:l0_2.length≤1000000) (hE: ∀ k:Nat,k<l0_2.length→0≤eFrom (rd_T74 l0_2 k)∧eFrom (rd_T74 l0_2 k)<a0_0):
  Calls Try.prog 159 #[.agg #[.int .i64 a0_0, .bool a0_1, .slice A0_2 l0_2.length c0_2], .func (.func 160) #[] #[]] w fun e w'=> ∃ v0_:Value,e= .returned v0_∧Kd.S (Kd.slice 3 (Kd.int .i64)) 25 w' w.heap.size (fun _=>True) v0_ (lsAt eFrom l0_2 a0_0.toNat l0_2.length)∧Below w.heap.size w w':=by
 have hu24:=Try.underlying24
 have hu74:=Try.underlying74
 have HR0_2:=Aside0.mk hr0_2
 have HC0_2:=Aside0.mk hc0_2
 have HE:=Aside0.mk hE
 clear hr0_2 hc0_2 hE
 have HB:=Aside0.mk (Below.refl w.heap.size w)
 have c2b1:decide (0≤a0_0)=true:=decide_eq_true h0
 have c3b1:decide ((a0_0:Int).toNat≤11728124029610)=true:=decide_eq_true (by omega)
 have c2b0:=eq_true h0
 have c3b0:((a0_0:Int).toNat≤11728124029610)=True:=eq_true (by omega)
 have HH0:=Aside0.mk h0
 have HH1:=Aside0.mk h1
 clear h0 h1
 go_enter Try.func159,Try.ntmps159
 go_wp2_with (first|((with_reducible refine gate_dst (N:=2) rfl ?_);refine box_event ?hg (N:=2) ?hd (cs:= #[.int .i64 a0_0, .bool a0_1, .slice A0_2 l0_2.length c0_2]) (t:=24) ?hr ?_;(case hd=>rfl);(case hg=>rfl);(case hr=>first|(go_simp;done)|(go_simp;rfl));intro gb111 hg w4 hbox hb;have n0_:=Aside0.mk (below_step (by repeat(first|(with_reducible first|exact HB.out|apply below_alloc|apply pw_below_drewN|apply below_drew1)|exact HB.out)) hb);have n1_:=Aside0.mk (hbox);have n3_:=Aside0.mk ((by rw[hg];exact(below_size (by repeat(first|(with_reducible first|exact HB.out|apply below_alloc|apply pw_below_drewN|apply below_drew1)|exact HB.out))):w.heap.size≤gb111));clear HB;have HB:=n0_;have BK111:=n1_;have GE111:=n3_;clear n0_ n1_ n3_;clear hb hbox hg;have hcz5_0:w4.cell? ⟨gb111,0,none⟩=some (.int .i64 a0_0):=(blk_cell BK111.out 0).trans rfl;have hcz5_1:w4.cell? ⟨gb111,1,none⟩=some (.bool a0_1):=(blk_cell BK111.out 1).trans rfl;have hcz5_2:w4.cell? ⟨gb111,2,none⟩=some (.slice A0_2 l0_2.length c0_2):=(blk_cell BK111.out 2).trans rfl;have hfz5_0:=blk_frozen BK111.out 0;have hfz5_1:=blk_frozen BK111.out 1;have hfz5_2:=blk_frozen BK111.out 2)|((with_reducible refine gate_dst (N:=11) rfl ?_);refine Kd.S_make (Kd.slice 3 (Kd.int .i64)) _ 25 rfl (N:=11) rfl 154 _ _ rfl a0_0 rfl rfl Try.underlying154 (.slice none 0 0) 24 infoRow rfl (by decide) (by omega) [] (ok:=fun _=>True) (okp:=fun _=>True) ⟨_,rfl,Kd.R_nil _ _ _ _ _⟩ (fun _ hk=>hk) trivial (of_decide_eq_true (by first|(with_reducible assumption)|assumption)) (Nat.le_trans (Nat.mul_le_mul_right _ (of_decide_eq_true (by first|(with_reducible assumption)|assumption):a0_0.toNat≤11728124029610)) (by omega)) (Below.refl _ _) (Nat.le_refl _) ?_;intro v113 w6 ho7 hb hg_ hnew_;clear hg_ hnew_;have n0_:=Aside0.mk (Kd.S_lower ho7 (below_size (by repeat(first|(with_reducible first|exact HB.out|apply below_alloc|apply pw_below_drewN|apply below_drew1|refine below_set ?_ GE111.out)|exact HB.out))));have n1_:=Aside0.mk (blk_below (g:=gb111) (o:= .cells #[.int .i64 a0_0, .bool a0_1, .slice A0_2 l0_2.length c0_2] 24 (0,0)) (by(with_reducible repeat(first|refine blk_drewN ?_ _|refine blk_drew ?_|refine blk_alloc ?_ _));exact BK111.out) hb);have n2_:=Aside0.mk (below_step (by repeat(first|(with_reducible first|exact HB.out|apply below_alloc|apply pw_below_drewN|apply below_drew1|refine below_set ?_ GE111.out)|exact HB.out)) hb);clear BK111;clear HB;have HO114:=n0_;have BK111:=n1_;have HB:=n2_;clear n0_ n1_ n2_;clear hb ho7;have hcz8_0:w6.cell? ⟨gb111,0,none⟩=some (.int .i64 a0_0):=(blk_cell BK111.out 0).trans rfl;have hcz8_1:w6.cell? ⟨gb111,1,none⟩=some (.bool a0_1):=(blk_cell BK111.out 1).trans rfl;have hcz8_2:w6.cell? ⟨gb111,2,none⟩=some (.slice A0_2 l0_2.length c0_2):=(blk_cell BK111.out 2).trans rfl;have hfz8_0:=blk_frozen BK111.out 0;have hfz8_1:=blk_frozen BK111.out 1;have hfz8_2:=blk_frozen BK111.out 2))
 go_loopw [15] (fun v15 w'=> ∃ k:Nat,k≤l0_2.length∧v15= .int .i64 k∧Aside0 (Kd.S (Kd.slice 3 (Kd.int .i64)) 25 w' w.heap.size (fun _=>True) v113 (lsAt eFrom l0_2 a0_0.toNat k))∧Aside0 (w'.heap[gb111]? =some (.cells #[.int .i64 a0_0, .bool a0_1,(.slice A0_2 l0_2.length c0_2)] 24 (0,0)))∧Aside0 (Below w.heap.size w w')) (fun v15 _=>l0_2.length - (intOf v15).toNat)
 case atStart=>exact⟨0,Nat.zero_le _,rfl,⟨by(with_reducible repeat(first|apply Kd.S_alloc|apply Kd.S_drewN|apply Kd.S_drew));exact HO114.out⟩,⟨by(with_reducible repeat(first|refine blk_drewN ?_ _|refine blk_drew ?_|refine blk_alloc ?_ _));exact BK111.out⟩,⟨(by repeat(first|(with_reducible first|exact HB.out|apply below_alloc|apply pw_below_drewN|apply below_drew1|refine below_set ?_ GE111.out)|exact HB.out))⟩⟩
 case round=>
  try clear c2b0
  try clear c2b1
  try clear c3b0
  try clear c3b1
  try clear hcz5_0 hcz5_1 hcz5_2 hcz8_0 hcz8_1 hcz8_2 hfz5_0 hfz5_1 hfz5_2 hfz8_0 hfz8_1 hfz8_2
  clear HO114 BK111 HB
  obtain⟨k,hk,rfl,HO_3,BK111,HB⟩:=hrel
  by_cases hlt:k<l0_2.length
  ·have hEk:=HE.out k hlt
   obtain⟨ex,hex0⟩: ∃ ex,eFrom (rd_T74 l0_2 (k:Int))=ex:=⟨_,rfl⟩
   have hex:=Aside0.mk hex0
   have LSN:Aside0 (lsAt eFrom l0_2 a0_0.toNat (k+1)=(lsAt eFrom l0_2 a0_0.toNat k).set (ex:Int).toNat (rd_L7 (lsAt eFrom l0_2 a0_0.toNat k) ex ++ [(k:Int)])):=⟨by rw[← hex0];rfl⟩
   rw[hex0] at hEk
   clear hex0
   have hlen:=lsAt_len eFrom l0_2 a0_0.toNat k
   have c12b0:decide (0≤ex)=true:=decide_eq_true hEk.1
   have c13b0:decide (ex<((lsAt eFrom l0_2 a0_0.toNat k).length:Int))=true:=decide_eq_true (by rw[hlen];have:=HH0.out;omega)
   have LMc14:Aside0 ((rd_L7 (lsAt eFrom l0_2 a0_0.toNat k) ex).length<17592186044416):=⟨by have:=lsAt_row eFrom l0_2 a0_0.toNat k ex;omega⟩
   clear hEk hlen
   have p115:0≤((k:Nat):Int):=by omega
   have q115:((k:Nat):Int)<(l0_2.length:Int):=by omega
   obtain⟨ad115,e115,hx115_0,hx115_1,hx115_2,hx115_3⟩:=at_T74 HR0_2.out (k:Int) p115 q115
   simp only[Int.toNat_natCast] at hx115_0 hx115_1 hx115_2 hx115_3
   cases e115
   replace hx115_0:=(HB.out.cell (World.block_lt_of_cell? w _ hx115_0)).trans hx115_0
   replace hx115_1:=(HB.out.cell (World.block_lt_of_cell? w _ hx115_1)).trans hx115_1
   replace hx115_2:=(HB.out.cell (World.block_lt_of_cell? w _ hx115_2)).trans hx115_2
   replace hx115_3:=(HB.out.cell (World.block_lt_of_cell? w _ hx115_3)).trans hx115_3
   have c9b0:decide ((k:Int)<(l0_2.length:Int))=true:=decide_eq_true q115
   go_wp2_with (first|((with_reducible refine gate_dst (N:=7) rfl ?_);refine box_event ?hg (N:=7) ?hd (cs:= #[.int .i64 0, .int .i64 0, .int .i64 0, .int .i64 0]) (t:=74) ?hr ?_;(case hd=>rfl);(case hg=>rfl);(case hr=>first|(go_simp;done)|(go_simp;rfl));intro gb116 hg w16 hbox hb;have n0_:=Aside0.mk (Kd.S_below (by(with_reducible repeat(first|apply Kd.S_alloc|apply Kd.S_drewN|apply Kd.S_drew));exact HO_3.out) hb);have n1_:=Aside0.mk (blk_below (g:=gb111) (o:=(.cells #[.int .i64 a0_0, .bool a0_1, .slice (some ad115) l0_2.length c0_2] 24 (0,0))) (by(with_reducible repeat(first|refine blk_drewN ?_ _|refine blk_drew ?_|refine blk_alloc ?_ _));exact BK111.out) hb);have n2_:=Aside0.mk (below_step (by repeat(first|(with_reducible first|exact HB.out|apply below_alloc|apply pw_below_drewN|apply below_drew1|refine below_set ?_ GE111.out)|exact HB.out)) hb);have n3_:=Aside0.mk (hbox);have n5_:=Aside0.mk ((by rw[hg];exact(below_size (by repeat(first|(with_reducible first|exact HB.out|apply below_alloc|apply pw_below_drewN|apply below_drew1|refine below_set ?_ GE111.out)|exact HB.out))):w.heap.size≤gb116));have n6_:=Aside0.mk ((by rw[hg];exact Nat.ne_of_lt (blk_lt (g:=gb111) (o:=(.cells #[.int .i64 a0_0, .bool a0_1, .slice (some ad115) l0_2.length c0_2] 24 (0,0))) (by(with_reducible repeat(first|refine blk_drewN ?_ _|refine blk_drew ?_|refine blk_alloc ?_ _));exact BK111.out)):gb111≠gb116));have n7_:=Aside0.mk ((by rw[hg];exact Nat.ne_of_gt (blk_lt (g:=gb111) (o:=(.cells #[.int .i64 a0_0, .bool a0_1, .slice (some ad115) l0_2.length c0_2] 24 (0,0))) (by(with_reducible repeat(first|refine blk_drewN ?_ _|refine blk_drew ?_|refine blk_alloc ?_ _));exact BK111.out)):gb116≠gb111));clear HO_3;clear BK111;clear HB;have HO_3:=n0_;have BK111:=n1_;have HB:=n2_;have BK116:=n3_;have GE116:=n5_;have NB111_116:=n6_;have NB116_111:=n7_;clear n0_ n1_ n2_ n3_ n5_ n6_ n7_;clear hb hbox hg;have hnb17:=NB116_111.out;have hnc17:=NB111_116.out;have hcz18_0:w16.cell? ⟨gb116,0,none⟩=some (.int .i64 0):=(blk_cell BK116.out 0).trans rfl;have hcz18_1:w16.cell? ⟨gb116,1,none⟩=some (.int .i64 0):=(blk_cell BK116.out 1).trans rfl;have hcz18_2:w16.cell? ⟨gb116,2,none⟩=some (.int .i64 0):=(blk_cell BK116.out 2).trans rfl;have hcz18_3:w16.cell? ⟨gb116,3,none⟩=some (.int .i64 0):=(blk_cell BK116.out 3).trans rfl;have hfz18_0:=blk_frozen BK116.out 0;have hfz18_1:=blk_frozen BK116.out 1;have hfz18_2:=blk_frozen BK116.out 2;have hfz18_3:=blk_frozen BK116.out 3)|((with_reducible refine gate_store (t:=74) (p:=7) rfl ?_);refine store_event (t:=74) (p:=7) (v:= ?vo_w19) (w1:=((((w16.setCell ⟨gb116,0,none⟩ (.int .i64 (rd_T74 l0_2 (k:Int)).f0)).setCell ⟨gb116,1,none⟩ (.int .i64 (rd_T74 l0_2 (k:Int)).f1)).setCell ⟨gb116,2,none⟩ (.int .i64 (rd_T74 l0_2 (k:Int)).f2)).setCell ⟨gb116,3,none⟩ (.int .i64 (rd_T74 l0_2 (k:Int)).f3))) ?hg ?ho ?hn ?hr ?_;(case ho=>rfl);(case hg=>rfl);(case hn=>rfl);(case hr=>first|(go_simp;done)|(go_simp;rfl));intro w19 hw;have n0_:Aside0 (Kd.S (Kd.slice 3 (Kd.int .i64)) 25 w19 w.heap.size (fun _=>True) v113 (lsAt eFrom l0_2 a0_0.toNat k)):=⟨(by rw[hw];exact(by(with_reducible repeat(first|apply Kd.S_alloc|apply Kd.S_drewN|apply Kd.S_drew));exact Kd.S_mono (Kd.S_far (p:=⟨gb116,3,none⟩) (Kd.S_far (p:=⟨gb116,2,none⟩) (Kd.S_far (p:=⟨gb116,1,none⟩) (Kd.S_far (p:=⟨gb116,0,none⟩) (Kd.S_types HO_3.out BK116.out (by decide)) (fun _ hk=>hk.2) (.int .i64 (rd_T74 l0_2 (k:Int)).f0)) (fun _ hk=>hk.2) (.int .i64 (rd_T74 l0_2 (k:Int)).f1)) (fun _ hk=>hk.2) (.int .i64 (rd_T74 l0_2 (k:Int)).f2)) (fun _ hk=>hk.2) (.int .i64 (rd_T74 l0_2 (k:Int)).f3)) (fun _ hk=>trivial)))⟩;have n1_:Aside0 (w19.heap[gb111]? =some (.cells #[.int .i64 a0_0, .bool a0_1, .slice (some ad115) l0_2.length c0_2] 24 (0,0))):=⟨(by rw[hw];exact(by(with_reducible repeat(first|refine blk_drewN ?_ _|refine blk_drew ?_|refine blk_alloc ?_ _));refine blk_far ?_ NB111_116.out _;(with_reducible repeat(first|refine blk_drewN ?_ _|refine blk_drew ?_|refine blk_alloc ?_ _));refine blk_far ?_ NB111_116.out _;(with_reducible repeat(first|refine blk_drewN ?_ _|refine blk_drew ?_|refine blk_alloc ?_ _));refine blk_far ?_ NB111_116.out _;(with_reducible repeat(first|refine blk_drewN ?_ _|refine blk_drew ?_|refine blk_alloc ?_ _));refine blk_far ?_ NB111_116.out _;(with_reducible repeat(first|refine blk_drewN ?_ _|refine blk_drew ?_|refine blk_alloc ?_ _));exact BK111.out))⟩;have n2_:Aside0 (w19.heap[gb116]? =some (.cells #[.int .i64 (rd_T74 l0_2 (k:Int)).f0, .int .i64 (rd_T74 l0_2 (k:Int)).f1, .int .i64 (rd_T74 l0_2 (k:Int)).f2, .int .i64 (rd_T74 l0_2 (k:Int)).f3] 74 (0,0))):=⟨(by rw[hw];exact(by(with_reducible repeat(first|refine blk_drewN ?_ _|refine blk_drew ?_|refine blk_alloc ?_ _));refine blk_put (cs:= #[.int .i64 (rd_T74 l0_2 (k:Int)).f0, .int .i64 (rd_T74 l0_2 (k:Int)).f1, .int .i64 (rd_T74 l0_2 (k:Int)).f2, .int .i64 0]) ?_ 3 _ rfl;(with_reducible repeat(first|refine blk_drewN ?_ _|refine blk_drew ?_|refine blk_alloc ?_ _));refine blk_put (cs:= #[.int .i64 (rd_T74 l0_2 (k:Int)).f0, .int .i64 (rd_T74 l0_2 (k:Int)).f1, .int .i64 0, .int .i64 0]) ?_ 2 _ rfl;(with_reducible repeat(first|refine blk_drewN ?_ _|refine blk_drew ?_|refine blk_alloc ?_ _));refine blk_put (cs:= #[.int .i64 (rd_T74 l0_2 (k:Int)).f0, .int .i64 0, .int .i64 0, .int .i64 0]) ?_ 1 _ rfl;(with_reducible repeat(first|refine blk_drewN ?_ _|refine blk_drew ?_|refine blk_alloc ?_ _));refine blk_put (cs:= #[.int .i64 0, .int .i64 0, .int .i64 0, .int .i64 0]) ?_ 0 _ rfl;(with_reducible repeat(first|refine blk_drewN ?_ _|refine blk_drew ?_|refine blk_alloc ?_ _));exact BK116.out))⟩;have n3_:Aside0 (Below w.heap.size w w19):=⟨(by rw[hw];exact(by repeat(first|(with_reducible first|exact HB.out|apply below_alloc|apply pw_below_drewN|apply below_drew1|refine below_set ?_ GE111.out|refine below_set ?_ GE116.out)|exact HB.out)))⟩;clear hw;clear HO_3;clear BK111;clear BK116;clear HB;have HO_3:=n0_;have BK111:=n1_;have BK116:=n2_;have HB:=n3_;clear n0_ n1_ n2_ n3_;have hcz20_0:w19.cell? ⟨gb116,0,none⟩=some (.int .i64 (rd_T74 l0_2 (k:Int)).f0):=(blk_cell BK116.out 0).trans rfl;have hcz20_1:w19.cell? ⟨gb116,1,none⟩=some (.int .i64 (rd_T74 l0_2 (k:Int)).f1):=(blk_cell BK116.out 1).trans rfl;have hcz20_2:w19.cell? ⟨gb116,2,none⟩=some (.int .i64 (rd_T74 l0_2 (k:Int)).f2):=(blk_cell BK116.out 2).trans rfl;have hcz20_3:w19.cell? ⟨gb116,3,none⟩=some (.int .i64 (rd_T74 l0_2 (k:Int)).f3):=(blk_cell BK116.out 3).trans rfl;have hfz20_0:=blk_frozen BK116.out 0;have hfz20_1:=blk_frozen BK116.out 1;have hfz20_2:=blk_frozen BK116.out 2;have hfz20_3:=blk_frozen BK116.out 3)|(go_at_call 160;refine(adj_from.calls (rd_T74 l0_2 (k:Int)).f0 (rd_T74 l0_2 (k:Int)).f1 (rd_T74 l0_2 (k:Int)).f2 (rd_T74 l0_2 (k:Int)).f3 _ _ rfl).mono ?_;rintro e_ w20 ⟨rfl,hb⟩;rw[show (rd_T74 l0_2 (k:Int)).f0=ex from hex.out];have n0_:=Aside0.mk (Kd.S_below (by(with_reducible repeat(first|apply Kd.S_alloc|apply Kd.S_drewN|apply Kd.S_drew));exact HO_3.out) hb);have n1_:=Aside0.mk (blk_below (g:=gb111) (o:=(.cells #[.int .i64 a0_0, .bool a0_1, .slice (some ad115) l0_2.length c0_2] 24 (0,0))) (by(with_reducible repeat(first|refine blk_drewN ?_ _|refine blk_drew ?_|refine blk_alloc ?_ _));exact BK111.out) hb);have n2_:=Aside0.mk (below_step (by repeat(first|(with_reducible first|exact HB.out|apply below_alloc|apply pw_below_drewN|apply below_drew1|refine below_set ?_ GE111.out|refine below_set ?_ GE116.out)|exact HB.out)) hb);clear HO_3 BK111 HB BK116 hcz20_0 hcz20_1 hcz20_2 hcz20_3 hfz20_0 hfz20_1 hfz20_2 hfz20_3 hb;have HO_3:=n0_;have BK111:=n1_;have HB:=n2_;clear n0_ n1_ n2_;obtain⟨Ao21,co21,eo21⟩:=Kd.S_slice HO_3.out;subst eo21;have p117:0≤(ex:Int):=(of_decide_eq_true (by first|(with_reducible assumption)|assumption));have q117:ex<((lsAt eFrom l0_2 a0_0.toNat k).length:Int):=(of_decide_eq_true (by first|(with_reducible assumption)|assumption));obtain⟨ad117,A117_0,c117_0,e117,hx117_0,hl117_0,hi117_0⟩:=at_L7 (Kd.S_reads' HO_3.out).2.2 ex p117 q117;cases e117;obtain⟨ce117,hce117,hMe117,hcc117⟩:=Kd.S_get HO_3.out [] ex p117 (by first|exact q117|(have e_:=(Kd.S_reads' HO_3.out).1;omega));obtain⟨ve117_0,rfl,ge117_0⟩:=hMe117;have hv117_0:=hcc117 0 _ rfl;rw[Nat.add_zero,show ((Kd.slice 3 (Kd.int .i64))).sz=1 from rfl,Nat.mul_one] at hv117_0;replace hv117_0:=Option.some.inj (hv117_0.symm.trans hx117_0);rw[hv117_0] at ge117_0;have HL117_0:=Aside0.mk (show Kd.R (Kd.int .i64) 3 _ _ _ _ (rd_L7 (lsAt eFrom l0_2 a0_0.toNat k) ex) from ge117_0);clear hv117_0 ge117_0;have HX117_0:=Aside0.mk hx117_0;clear hcc117 hce117;have HR117_0:=Aside0.mk hi117_0;have HC117_0:=Aside0.mk hl117_0;clear hi117_0 hl117_0;replace p117:=eq_true p117;replace q117:=eq_true q117;obtain⟨go22,co22,eo22,gb22,gl22,cl22,HG22⟩:=Kd.S_form HO_3.out (by have h_:(ex:Int)<((lsAt eFrom l0_2 a0_0.toNat k).length:Int):=(of_decide_eq_true (by first|(with_reducible assumption)|assumption));have h2_:0≤(ex:Int):=(of_decide_eq_true (by first|(with_reducible assumption)|assumption));omega);(first|cases eo22|(injection eo22 with ea_ en_ ec_;(first|subst ea_|(injection ea_ with ea_;subst ea_));subst ec_;clear en_));have GB22:=Aside0.mk gb22;have GG22:=Aside0.mk HG22;clear gb22 gl22 HG22;(first|simp only[add_plain] at hx117_0|skip);obtain⟨oki22,ce22,hcl22,hM22,hcc22,_,_,hH22⟩:=Kd.S_elem HO_3.out [] (ex:Int) (of_decide_eq_true (by first|(with_reducible assumption)|assumption)) (by have h_:(ex:Int)<((lsAt eFrom l0_2 a0_0.toNat k).length:Int):=of_decide_eq_true (by first|(with_reducible assumption)|assumption);first|exact h_|(have e_:=(Kd.S_reads' HO_3.out).1;omega)|simpa using h_);obtain⟨ve22_0,rfl,ge22_0⟩:=hM22;have hv22:=hcc22 0 _ rfl;have hX22:=HX117_0.out;(try simp only[add_plain] at hX22);(try simp only[Nat.add_zero] at hv22);(try rw[show ((Kd.slice 3 (Kd.int .i64))).sz=1 from rfl,Nat.mul_one] at hv22);replace hv22:=Option.some.inj (hv22.symm.trans hX22);subst hv22;clear hX22 hcc22 hcl22;have UU22:=Aside0.mk (show Kd.R (Kd.int .i64) 3 _ w.heap.size oki22 (.slice A117_0 (rd_L7 (lsAt eFrom l0_2 a0_0.toNat k) ex).length c117_0) (rd_L7 (lsAt eFrom l0_2 a0_0.toNat k) ex) from ge22_0);have HH22:=Aside0.mk hH22;have HN22:=Aside0.mk (Kd.S_reads' HO_3.out).1;clear hH22 ge22_0)|((with_reducible refine gate_builtin (b:= .append) (xs:= #[.tmp 28, .tmp 30]) rfl ?_);at_builtin;refine Kd.R_append (Kd.int .i64) (w0:=w) w.heap.size rfl (.tmp 28) (.tmp 30) 25 3 (.int .i64 0) 8 rfl Try.underlying25 info3 rfl (by decide) (by omega) (.slice A117_0 (rd_L7 (lsAt eFrom l0_2 a0_0.toNat k) ex).length c117_0) (rd_L7 (lsAt eFrom l0_2 a0_0.toNat k) ex) (k:Int) [.int .i64 (k:Int)] (fun k_=>oki22 k_∨((fun _=>True)) k_∧w20.heap.size≤k_) (fun _=>False) rfl rfl ?aP (fun _ hk=>hk.elim) ?aF ?aO ?aB ?aS ?aL ?_;(case aP=>exact rfl);(case aB=>exact(by repeat(first|(with_reducible first|exact HB.out|apply below_alloc|apply pw_below_drewN|apply below_drew1|refine below_set ?_ GE111.out)|exact HB.out)));(case aF=>exact(fun k_ hk=> .inr ⟨trivial,hk⟩));(case aO=>exact(by(with_reducible repeat(first|apply Kd.R_alloc|apply Kd.R_drewN|apply Kd.R_drew));exact Kd.R_mono UU22.out (fun _ hk=> .inl hk)));(case aS=>exact(below_size (by repeat(first|(with_reducible first|exact HB.out|apply below_alloc|apply pw_below_drewN|apply below_drew1|refine below_set ?_ GE111.out)|exact HB.out))));(case aL=>have:=LMc14.out;omega);intro v119 w23 ho hb hg hat;have n0_:=Aside0.mk (blk_grown (g:=gb111) (o:=(.cells #[.int .i64 a0_0, .bool a0_1, .slice (some ad115) l0_2.length c0_2] 24 (0,0))) (by(with_reducible repeat(first|refine blk_drewN ?_ _|refine blk_drew ?_|refine blk_alloc ?_ _));exact BK111.out) hg (Kd.R_ne HL117_0.out BK111.out (by decide)));have n2_:=Aside0.mk (hb);have n3_:=Aside0.mk (Kd.H_grown (Kd.H_widen (by repeat(first|exact HH22.out|refine Kd.H_alloc ?_ _|refine Kd.H_drewN ?_ _|refine Kd.H_drew ?_))) hg (fun k_ e_=> .inl (UU22.out.1 k_ e_)));have n4_:=Aside0.mk (ho);clear BK111;clear HB;clear HH22;clear HO_3;clear UU22;clear HL117_0;have BK111:=n0_;have HB:=n2_;have HH22:=n3_;have HO120:=n4_;clear n0_ n2_ n3_ n4_;clear ho hb hg hat;have p15:0≤(ex:Int):=(of_decide_eq_true (by first|(with_reducible assumption)|assumption));have q15:(ex:Int)<((lsAt eFrom l0_2 a0_0.toNat k).length:Int):=(of_decide_eq_true (by first|(with_reducible assumption)|assumption));replace p15:=eq_true p15;replace q15:=eq_true q15;obtain⟨Ao26,co26,eo26⟩:=Kd.R_slice HO120.out;subst eo26;obtain⟨_,_,hraw24,_,_,hcc24,_⟩:=Kd.H_raw HH22.out (of_decide_eq_true (by first|(with_reducible assumption)|assumption)) (by have h_:(ex:Int)<((lsAt eFrom l0_2 a0_0.toNat k).length:Int):=of_decide_eq_true (by first|(with_reducible assumption)|assumption);first|exact h_|(have e_:=(HN22.out);omega)|simpa using h_);obtain⟨_,hfr24⟩:=Kd.H_at HH22.out (of_decide_eq_true (by first|(with_reducible assumption)|assumption)) (by have h_:(ex:Int)<((lsAt eFrom l0_2 a0_0.toNat k).length:Int):=of_decide_eq_true (by first|(with_reducible assumption)|assumption);first|exact h_|(have e_:=(HN22.out);omega)|simpa using h_);have hx24_0:=hcc24 0 _ rfl;have hf24_0:=hfr24 0;(try simp only[Nat.add_zero] at hx24_0 hf24_0);(try rw[show ((Kd.slice 3 (Kd.int .i64))).sz=1 from rfl,Nat.mul_one] at hx24_0);(try rw[show ((Kd.slice 3 (Kd.int .i64))).sz=1 from rfl,Nat.mul_one] at hf24_0);have HP24:=Kd.S_seg0 HH22.out (of_decide_eq_true (by first|(with_reducible assumption)|assumption)) (by have h_:(ex:Int)<((lsAt eFrom l0_2 a0_0.toNat k).length:Int):=of_decide_eq_true (by first|(with_reducible assumption)|assumption);first|exact h_|(have e_:=(HN22.out);omega)|simpa using h_) (seg:=[.slice Ao26 (rd_L7 (lsAt eFrom l0_2 a0_0.toNat k) ex ++ [(k:Int)]).length co26]) (j:=0) (show 1≤1 from by decide) (x':=rd_L7 (lsAt eFrom l0_2 a0_0.toNat k) ex ++ [(k:Int)]) (Kd.M_row HO120.out) (fun _ hk=>hk);(try simp only[show ((Kd.slice 3 (Kd.int .i64))).sz=1 from rfl,Nat.mul_one,Nat.add_zero] at HP24);clear hcc24 hfr24)|((with_reducible refine gate_store (t:=25) (p:=32) rfl ?_);refine store_event (t:=25) (p:=32) (v:= ?vo_w25) (w1:=(w23.setCell ⟨go22,(ex:Int).toNat,none⟩ (.slice Ao26 (rd_L7 (lsAt eFrom l0_2 a0_0.toNat k) ex ++ [(k:Int)]).length co26))) ?hg ?ho ?hn ?hr ?_;(case ho=>rfl);(case hg=>rfl);(case hn=>rfl);(case hr=>first|(go_simp;done)|(go_simp;rfl));intro w25 hw;have hg:w23.grownBy w25 (some go22):=(by rw[hw];exact HP24.2);have hp_:Kd.S (Kd.slice 3 (Kd.int .i64)) 25 w25 w.heap.size (fun _=>True) (.slice (some ⟨go22,0,none⟩) (lsAt eFrom l0_2 a0_0.toNat k).length co21) (lsAt eFrom l0_2 a0_0.toNat (k+1)):=(by rw[hw,LSN.out];exact HP24.1);clear HP24;have n0_:=Aside0.mk (blk_grown (g:=gb111) (o:=(.cells #[.int .i64 a0_0, .bool a0_1, .slice (some ad115) l0_2.length c0_2] 24 (0,0))) (by(with_reducible repeat(first|refine blk_drewN ?_ _|refine blk_drew ?_|refine blk_alloc ?_ _));exact BK111.out) hg (Kd.R_ne hraw24 BK111.out (by decide)));have n2_:=Aside0.mk ((by rw[hw];exact below_set HB.out GB22.out:Below w.heap.size w w25));have n3_:=Aside0.mk (hp_);clear BK111;clear HB;clear HO120;clear HH22;have BK111:=n0_;have HB:=n2_;have HO_3:=n3_;clear n0_ n2_ n3_;clear hg hw hp_ hraw24))
   go_roundw
   case rel=>exact⟨k+1,by omega,by first|rfl|go_num,⟨by(with_reducible repeat(first|apply Kd.S_alloc|apply Kd.S_drewN|apply Kd.S_drew));exact HO_3.out⟩,⟨by(with_reducible repeat(first|refine blk_drewN ?_ _|refine blk_drew ?_|refine blk_alloc ?_ _));exact BK111.out⟩,⟨(by repeat(first|(with_reducible first|exact HB.out|apply below_alloc|apply pw_below_drewN|apply below_drew1|refine below_set ?_ GE111.out)|exact HB.out))⟩⟩
   case measure=>simp[intOf]<;>omega
  ·have ek:k=l0_2.length:=by omega
   subst ek
   have c9b0:decide ((l0_2.length:Int)<(l0_2.length:Int))=false:=decide_eq_false (by omega)
   go_wp2
   go_ret
   exact⟨_,rfl,by(with_reducible repeat(first|apply Kd.S_alloc|apply Kd.S_drewN|apply Kd.S_drew));exact HO_3.out,(by repeat(first|(with_reducible first|exact HB.out|apply below_alloc|apply pw_below_drewN|apply below_drew1|refine below_set ?_ GE111.out)|exact HB.out))⟩
set_option maxHeartbeats 4000000 in
set_option maxRecDepth 100000 in
theorem listsTo_calls (a0_0:Int) (a0_1:Bool) (A0_2:Option Addr) (c0_2:Nat) (l0_2:List S74) (w:World) (hr0_2:Kd.C k74 w A0_2 l0_2.length l0_2) (hc0_2:l0_2.length≤c0_2) (h0:0≤a0_0) (h1:a0_0≤1000000) (hl:l0_2.length≤1000000) (hE: ∀ k:Nat,k<l0_2.length→0≤eTo (rd_T74 l0_2 k)∧eTo (rd_T74 l0_2 k)<a0_0):
  Calls Try.prog 159 #[.agg #[.int .i64 a0_0, .bool a0_1, .slice A0_2 l0_2.length c0_2], .func (.func 161) #[] #[]] w fun e w'=> ∃ v0_:Value,e= .returned v0_∧Kd.S (Kd.slice 3 (Kd.int .i64)) 25 w' w.heap.size (fun _=>True) v0_ (lsAt eTo l0_2 a0_0.toNat l0_2.length)∧Below w.heap.size w w':=by
 have hu24:=Try.underlying24
 have hu74:=Try.underlying74
 have HR0_2:=Aside0.mk hr0_2
 have HC0_2:=Aside0.mk hc0_2
 have HE:=Aside0.mk hE
 clear hr0_2 hc0_2 hE
 have HB:=Aside0.mk (Below.refl w.heap.size w)
 have c2b1:decide (0≤a0_0)=true:=decide_eq_true h0
 have c3b1:decide ((a0_0:Int).toNat≤11728124029610)=true:=decide_eq_true (by omega)
 have c2b0:=eq_true h0
 have c3b0:((a0_0:Int).toNat≤11728124029610)=True:=eq_true (by omega)
 have HH0:=Aside0.mk h0
 have HH1:=Aside0.mk h1
 clear h0 h1
 go_enter Try.func159,Try.ntmps159
 go_wp2_with (first|((with_reducible refine gate_dst (N:=2) rfl ?_);refine box_event ?hg (N:=2) ?hd (cs:= #[.int .i64 a0_0, .bool a0_1, .slice A0_2 l0_2.length c0_2]) (t:=24) ?hr ?_;(case hd=>rfl);(case hg=>rfl);(case hr=>first|(go_simp;done)|(go_simp;rfl));intro gb111 hg w4 hbox hb;have n0_:=Aside0.mk (below_step (by repeat(first|(with_reducible first|exact HB.out|apply below_alloc|apply pw_below_drewN|apply below_drew1)|exact HB.out)) hb);have n1_:=Aside0.mk (hbox);have n3_:=Aside0.mk ((by rw[hg];exact(below_size (by repeat(first|(with_reducible first|exact HB.out|apply below_alloc|apply pw_below_drewN|apply below_drew1)|exact HB.out))):w.heap.size≤gb111));clear HB;have HB:=n0_;have BK111:=n1_;have GE111:=n3_;clear n0_ n1_ n3_;clear hb hbox hg;have hcz5_0:w4.cell? ⟨gb111,0,none⟩=some (.int .i64 a0_0):=(blk_cell BK111.out 0).trans rfl;have hcz5_1:w4.cell? ⟨gb111,1,none⟩=some (.bool a0_1):=(blk_cell BK111.out 1).trans rfl;have hcz5_2:w4.cell? ⟨gb111,2,none⟩=some (.slice A0_2 l0_2.length c0_2):=(blk_cell BK111.out 2).trans rfl;have hfz5_0:=blk_frozen BK111.out 0;have hfz5_1:=blk_frozen BK111.out 1;have hfz5_2:=blk_frozen BK111.out 2)|((with_reducible refine gate_dst (N:=11) rfl ?_);refine Kd.S_make (Kd.slice 3 (Kd.int .i64)) _ 25 rfl (N:=11) rfl 154 _ _ rfl a0_0 rfl rfl Try.underlying154 (.slice none 0 0) 24 infoRow rfl (by decide) (by omega) [] (ok:=fun _=>True) (okp:=fun _=>True) ⟨_,rfl,Kd.R_nil _ _ _ _ _⟩ (fun _ hk=>hk) trivial (of_decide_eq_true (by first|(with_reducible assumption)|assumption)) (Nat.le_trans (Nat.mul_le_mul_right _ (of_decide_eq_true (by first|(with_reducible assumption)|assumption):a0_0.toNat≤11728124029610)) (by omega)) (Below.refl _ _) (Nat.le_refl _) ?_;intro v113 w6 ho7 hb hg_ hnew_;clear hg_ hnew_;have n0_:=Aside0.mk (Kd.S_lower ho7 (below_size (by repeat(first|(with_reducible first|exact HB.out|apply below_alloc|apply pw_below_drewN|apply below_drew1|refine below_set ?_ GE111.out)|exact HB.out))));have n1_:=Aside0.mk (blk_below (g:=gb111) (o:= .cells #[.int .i64 a0_0, .bool a0_1, .slice A0_2 l0_2.length c0_2] 24 (0,0)) (by(with_reducible repeat(first|refine blk_drewN ?_ _|refine blk_drew ?_|refine blk_alloc ?_ _));exact BK111.out) hb);have n2_:=Aside0.mk (below_step (by repeat(first|(with_reducible first|exact HB.out|apply below_alloc|apply pw_below_drewN|apply below_drew1|refine below_set ?_ GE111.out)|exact HB.out)) hb);clear BK111;clear HB;have HO114:=n0_;have BK111:=n1_;have HB:=n2_;clear n0_ n1_ n2_;clear hb ho7;have hcz8_0:w6.cell? ⟨gb111,0,none⟩=some (.int .i64 a0_0):=(blk_cell BK111.out 0).trans rfl;have hcz8_1:w6.cell? ⟨gb111,1,none⟩=some (.bool a0_1):=(blk_cell BK111.out 1).trans rfl;have hcz8_2:w6.cell? ⟨gb111,2,none⟩=some (.slice A0_2 l0_2.length c0_2):=(blk_cell BK111.out 2).trans rfl;have hfz8_0:=blk_frozen BK111.out 0;have hfz8_1:=blk_frozen BK111.out 1;have hfz8_2:=blk_frozen BK111.out 2))
 go_loopw [15] (fun v15 w'=> ∃ k:Nat,k≤l0_2.length∧v15= .int .i64 k∧Aside0 (Kd.S (Kd.slice 3 (Kd.int .i64)) 25 w' w.heap.size (fun _=>True) v113 (lsAt eTo l0_2 a0_0.toNat k))∧Aside0 (w'.heap[gb111]? =some (.cells #[.int .i64 a0_0, .bool a0_1,(.slice A0_2 l0_2.length c0_2)] 24 (0,0)))∧Aside0 (Below w.heap.size w w')) (fun v15 _=>l0_2.length - (intOf v15).toNat)
 case atStart=>exact⟨0,Nat.zero_le _,rfl,⟨by(with_reducible repeat(first|apply Kd.S_alloc|apply Kd.S_drewN|apply Kd.S_drew));exact HO114.out⟩,⟨by(with_reducible repeat(first|refine blk_drewN ?_ _|refine blk_drew ?_|refine blk_alloc ?_ _));exact BK111.out⟩,⟨(by repeat(first|(with_reducible first|exact HB.out|apply below_alloc|apply pw_below_drewN|apply below_drew1|refine below_set ?_ GE111.out)|exact HB.out))⟩⟩
 case round=>
  try clear c2b0
  try clear c2b1
  try clear c3b0
  try clear c3b1
  try clear hcz5_0 hcz5_1 hcz5_2 hcz8_0 hcz8_1 hcz8_2 hfz5_0 hfz5_1 hfz5_2 hfz8_0 hfz8_1 hfz8_2
  clear HO114 BK111 HB
  obtain⟨k,hk,rfl,HO_3,BK111,HB⟩:=hrel
  by_cases hlt:k<l0_2.length
  ·have hEk:=HE.out k hlt
   obtain⟨ex,hex0⟩: ∃ ex,eTo (rd_T74 l0_2 (k:Int))=ex:=⟨_,rfl⟩
   have hex:=Aside0.mk hex0
   have LSN:Aside0 (lsAt eTo l0_2 a0_0.toNat (k+1)=(lsAt eTo l0_2 a0_0.toNat k).set (ex:Int).toNat (rd_L7 (lsAt eTo l0_2 a0_0.toNat k) ex ++ [(k:Int)])):=⟨by rw[← hex0];rfl⟩
   rw[hex0] at hEk
   clear hex0
   have hlen:=lsAt_len eTo l0_2 a0_0.toNat k
   have c12b0:decide (0≤ex)=true:=decide_eq_true hEk.1
   have c13b0:decide (ex<((lsAt eTo l0_2 a0_0.toNat k).length:Int))=true:=decide_eq_true (by rw[hlen];have:=HH0.out;omega)
   have LMc14:Aside0 ((rd_L7 (lsAt eTo l0_2 a0_0.toNat k) ex).length<17592186044416):=⟨by have:=lsAt_row eTo l0_2 a0_0.toNat k ex;omega⟩
   clear hEk hlen
   have p115:0≤((k:Nat):Int):=by omega
   have q115:((k:Nat):Int)<(l0_2.length:Int):=by omega
   obtain⟨ad115,e115,hx115_0,hx115_1,hx115_2,hx115_3⟩:=at_T74 HR0_2.out (k:Int) p115 q115
   simp only[Int.toNat_natCast] at hx115_0 hx115_1 hx115_2 hx115_3
   cases e115
   replace hx115_0:=(HB.out.cell (World.block_lt_of_cell? w _ hx115_0)).trans hx115_0
   replace hx115_1:=(HB.out.cell (World.block_lt_of_cell? w _ hx115_1)).trans hx115_1
   replace hx115_2:=(HB.out.cell (World.block_lt_of_cell? w _ hx115_2)).trans hx115_2
   replace hx115_3:=(HB.out.cell (World.block_lt_of_cell? w _ hx115_3)).trans hx115_3
   have c9b0:decide ((k:Int)<(l0_2.length:Int))=true:=decide_eq_true q115
   go_wp2_with (first|((with_reducible refine gate_dst (N:=7) rfl ?_);refine box_event ?hg (N:=7) ?hd (cs:= #[.int .i64 0, .int .i64 0, .int .i64 0, .int .i64 0]) (t:=74) ?hr ?_;(case hd=>rfl);(case hg=>rfl);(case hr=>first|(go_simp;done)|(go_simp;rfl));intro gb116 hg w16 hbox hb;have n0_:=Aside0.mk (Kd.S_below (by(with_reducible repeat(first|apply Kd.S_alloc|apply Kd.S_drewN|apply Kd.S_drew));exact HO_3.out) hb);have n1_:=Aside0.mk (blk_below (g:=gb111) (o:=(.cells #[.int .i64 a0_0, .bool a0_1, .slice (some ad115) l0_2.length c0_2] 24 (0,0))) (by(with_reducible repeat(first|refine blk_drewN ?_ _|refine blk_drew ?_|refine blk_alloc ?_ _));exact BK111.out) hb);have n2_:=Aside0.mk (below_step (by repeat(first|(with_reducible first|exact HB.out|apply below_alloc|apply pw_below_drewN|apply below_drew1|refine below_set ?_ GE111.out)|exact HB.out)) hb);have n3_:=Aside0.mk (hbox);have n5_:=Aside0.mk ((by rw[hg];exact(below_size (by repeat(first|(with_reducible first|exact HB.out|apply below_alloc|apply pw_below_drewN|apply below_drew1|refine below_set ?_ GE111.out)|exact HB.out))):w.heap.size≤gb116));have n6_:=Aside0.mk ((by rw[hg];exact Nat.ne_of_lt (blk_lt (g:=gb111) (o:=(.cells #[.int .i64 a0_0, .bool a0_1, .slice (some ad115) l0_2.length c0_2] 24 (0,0))) (by(with_reducible repeat(first|refine blk_drewN ?_ _|refine blk_drew ?_|refine blk_alloc ?_ _));exact BK111.out)):gb111≠gb116));have n7_:=Aside0.mk ((by rw[hg];exact Nat.ne_of_gt (blk_lt (g:=gb111) (o:=(.cells #[.int .i64 a0_0, .bool a0_1, .slice (some ad115) l0_2.length c0_2] 24 (0,0))) (by(with_reducible repeat(first|refine blk_drewN ?_ _|refine blk_drew ?_|refine blk_alloc ?_ _));exact BK111.out)):gb116≠gb111));clear HO_3;clear BK111;clear HB;have HO_3:=n0_;have BK111:=n1_;have HB:=n2_;have BK116:=n3_;have GE116:=n5_;have NB111_116:=n6_;have NB116_111:=n7_;clear n0_ n1_ n2_ n3_ n5_ n6_ n7_;clear hb hbox hg;have hnb17:=NB116_111.out;have hnc17:=NB111_116.out;have hcz18_0:w16.cell? ⟨gb116,0,none⟩=some (.int .i64 0):=(blk_cell BK116.out 0).trans rfl;have hcz18_1:w16.cell? ⟨gb116,1,none⟩=some (.int .i64 0):=(blk_cell BK116.out 1).trans rfl;have hcz18_2:w16.cell? ⟨gb116,2,none⟩=some (.int .i64 0):=(blk_cell BK116.out 2).trans rfl;have hcz18_3:w16.cell? ⟨gb116,3,none⟩=some (.int .i64 0):=(blk_cell BK116.out 3).trans rfl;have hfz18_0:=blk_frozen BK116.out 0;have hfz18_1:=blk_frozen BK116.out 1;have hfz18_2:=blk_frozen BK116.out 2;have hfz18_3:=blk_frozen BK116.out 3)|((with_reducible refine gate_store (t:=74) (p:=7) rfl ?_);refine store_event (t:=74) (p:=7) (v:= ?vo_w19) (w1:=((((w16.setCell ⟨gb116,0,none⟩ (.int .i64 (rd_T74 l0_2 (k:Int)).f0)).setCell ⟨gb116,1,none⟩ (.int .i64 (rd_T74 l0_2 (k:Int)).f1)).setCell ⟨gb116,2,none⟩ (.int .i64 (rd_T74 l0_2 (k:Int)).f2)).setCell ⟨gb116,3,none⟩ (.int .i64 (rd_T74 l0_2 (k:Int)).f3))) ?hg ?ho ?hn ?hr ?_;(case ho=>rfl);(case hg=>rfl);(case hn=>rfl);(case hr=>first|(go_simp;done)|(go_simp;rfl));intro w19 hw;have n0_:Aside0 (Kd.S (Kd.slice 3 (Kd.int .i64)) 25 w19 w.heap.size (fun _=>True) v113 (lsAt eTo l0_2 a0_0.toNat k)):=⟨(by rw[hw];exact(by(with_reducible repeat(first|apply Kd.S_alloc|apply Kd.S_drewN|apply Kd.S_drew));exact Kd.S_mono (Kd.S_far (p:=⟨gb116,3,none⟩) (Kd.S_far (p:=⟨gb116,2,none⟩) (Kd.S_far (p:=⟨gb116,1,none⟩) (Kd.S_far (p:=⟨gb116,0,none⟩) (Kd.S_types HO_3.out BK116.out (by decide)) (fun _ hk=>hk.2) (.int .i64 (rd_T74 l0_2 (k:Int)).f0)) (fun _ hk=>hk.2) (.int .i64 (rd_T74 l0_2 (k:Int)).f1)) (fun _ hk=>hk.2) (.int .i64 (rd_T74 l0_2 (k:Int)).f2)) (fun _ hk=>hk.2) (.int .i64 (rd_T74 l0_2 (k:Int)).f3)) (fun _ hk=>trivial)))⟩;have n1_:Aside0 (w19.heap[gb111]? =some (.cells #[.int .i64 a0_0, .bool a0_1, .slice (some ad115) l0_2.length c0_2] 24 (0,0))):=⟨(by rw[hw];exact(by(with_reducible repeat(first|refine blk_drewN ?_ _|refine blk_drew ?_|refine blk_alloc ?_ _));refine blk_far ?_ NB111_116.out _;(with_reducible repeat(first|refine blk_drewN ?_ _|refine blk_drew ?_|refine blk_alloc ?_ _));refine blk_far ?_ NB111_116.out _;(with_reducible repeat(first|refine blk_drewN ?_ _|refine blk_drew ?_|refine blk_alloc ?_ _));refine blk_far ?_ NB111_116.out _;(with_reducible repeat(first|refine blk_drewN ?_ _|refine blk_drew ?_|refine blk_alloc ?_ _));refine blk_far ?_ NB111_116.out _;(with_reducible repeat(first|refine blk_drewN ?_ _|refine blk_drew ?_|refine blk_alloc ?_ _));exact BK111.out))⟩;have n2_:Aside0 (w19.heap[gb116]? =some (.cells #[.int .i64 (rd_T74 l0_2 (k:Int)).f0, .int .i64 (rd_T74 l0_2 (k:Int)).f1, .int .i64 (rd_T74 l0_2 (k:Int)).f2, .int .i64 (rd_T74 l0_2 (k:Int)).f3] 74 (0,0))):=⟨(by rw[hw];exact(by(with_reducible repeat(first|refine blk_drewN ?_ _|refine blk_drew ?_|refine blk_alloc ?_ _));refine blk_put (cs:= #[.int .i64 (rd_T74 l0_2 (k:Int)).f0, .int .i64 (rd_T74 l0_2 (k:Int)).f1, .int .i64 (rd_T74 l0_2 (k:Int)).f2, .int .i64 0]) ?_ 3 _ rfl;(with_reducible repeat(first|refine blk_drewN ?_ _|refine blk_drew ?_|refine blk_alloc ?_ _));refine blk_put (cs:= #[.int .i64 (rd_T74 l0_2 (k:Int)).f0, .int .i64 (rd_T74 l0_2 (k:Int)).f1, .int .i64 0, .int .i64 0]) ?_ 2 _ rfl;(with_reducible repeat(first|refine blk_drewN ?_ _|refine blk_drew ?_|refine blk_alloc ?_ _));refine blk_put (cs:= #[.int .i64 (rd_T74 l0_2 (k:Int)).f0, .int .i64 0, .int .i64 0, .int .i64 0]) ?_ 1 _ rfl;(with_reducible repeat(first|refine blk_drewN ?_ _|refine blk_drew ?_|refine blk_alloc ?_ _));refine blk_put (cs:= #[.int .i64 0, .int .i64 0, .int .i64 0, .int .i64 0]) ?_ 0 _ rfl;(with_reducible repeat(first|refine blk_drewN ?_ _|refine blk_drew ?_|refine blk_alloc ?_ _));exact BK116.out))⟩;have n3_:Aside0 (Below w.heap.size w w19):=⟨(by rw[hw];exact(by repeat(first|(with_reducible first|exact HB.out|apply below_alloc|apply pw_below_drewN|apply below_drew1|refine below_set ?_ GE111.out|refine below_set ?_ GE116.out)|exact HB.out)))⟩;clear hw;clear HO_3;clear BK111;clear BK116;clear HB;have HO_3:=n0_;have BK111:=n1_;have BK116:=n2_;have HB:=n3_;clear n0_ n1_ n2_ n3_;have hcz20_0:w19.cell? ⟨gb116,0,none⟩=some (.int .i64 (rd_T74 l0_2 (k:Int)).f0):=(blk_cell BK116.out 0).trans rfl;have hcz20_1:w19.cell? ⟨gb116,1,none⟩=some (.int .i64 (rd_T74 l0_2 (k:Int)).f1):=(blk_cell BK116.out 1).trans rfl;have hcz20_2:w19.cell? ⟨gb116,2,none⟩=some (.int .i64 (rd_T74 l0_2 (k:Int)).f2):=(blk_cell BK116.out 2).trans rfl;have hcz20_3:w19.cell? ⟨gb116,3,none⟩=some (.int .i64 (rd_T74 l0_2 (k:Int)).f3):=(blk_cell BK116.out 3).trans rfl;have hfz20_0:=blk_frozen BK116.out 0;have hfz20_1:=blk_frozen BK116.out 1;have hfz20_2:=blk_frozen BK116.out 2;have hfz20_3:=blk_frozen BK116.out 3)|(go_at_call 161;refine(adj_to.calls (rd_T74 l0_2 (k:Int)).f0 (rd_T74 l0_2 (k:Int)).f1 (rd_T74 l0_2 (k:Int)).f2 (rd_T74 l0_2 (k:Int)).f3 _ _ rfl).mono ?_;rintro e_ w20 ⟨rfl,hb⟩;rw[show (rd_T74 l0_2 (k:Int)).f1=ex from hex.out];have n0_:=Aside0.mk (Kd.S_below (by(with_reducible repeat(first|apply Kd.S_alloc|apply Kd.S_drewN|apply Kd.S_drew));exact HO_3.out) hb);have n1_:=Aside0.mk (blk_below (g:=gb111) (o:=(.cells #[.int .i64 a0_0, .bool a0_1, .slice (some ad115) l0_2.length c0_2] 24 (0,0))) (by(with_reducible repeat(first|refine blk_drewN ?_ _|refine blk_drew ?_|refine blk_alloc ?_ _));exact BK111.out) hb);have n2_:=Aside0.mk (below_step (by repeat(first|(with_reducible first|exact HB.out|apply below_alloc|apply pw_below_drewN|apply below_drew1|refine below_set ?_ GE111.out|refine below_set ?_ GE116.out)|exact HB.out)) hb);clear HO_3 BK111 HB BK116 hcz20_0 hcz20_1 hcz20_2 hcz20_3 hfz20_0 hfz20_1 hfz20_2 hfz20_3 hb;have HO_3:=n0_;have BK111:=n1_;have HB:=n2_;clear n0_ n1_ n2_;obtain⟨Ao21,co21,eo21⟩:=Kd.S_slice HO_3.out;subst eo21;have p117:0≤(ex:Int):=(of_decide_eq_true (by first|(with_reducible assumption)|assumption));have q117:ex<((lsAt eTo l0_2 a0_0.toNat k).length:Int):=(of_decide_eq_true (by first|(with_reducible assumption)|assumption));obtain⟨ad117,A117_0,c117_0,e117,hx117_0,hl117_0,hi117_0⟩:=at_L7 (Kd.S_reads' HO_3.out).2.2 ex p117 q117;cases e117;obtain⟨ce117,hce117,hMe117,hcc117⟩:=Kd.S_get HO_3.out [] ex p117 (by first|exact q117|(have e_:=(Kd.S_reads' HO_3.out).1;omega));obtain⟨ve117_0,rfl,ge117_0⟩:=hMe117;have hv117_0:=hcc117 0 _ rfl;rw[Nat.add_zero,show ((Kd.slice 3 (Kd.int .i64))).sz=1 from rfl,Nat.mul_one] at hv117_0;replace hv117_0:=Option.some.inj (hv117_0.symm.trans hx117_0);rw[hv117_0] at ge117_0;have HL117_0:=Aside0.mk (show Kd.R (Kd.int .i64) 3 _ _ _ _ (rd_L7 (lsAt eTo l0_2 a0_0.toNat k) ex) from ge117_0);clear hv117_0 ge117_0;have HX117_0:=Aside0.mk hx117_0;clear hcc117 hce117;have HR117_0:=Aside0.mk hi117_0;have HC117_0:=Aside0.mk hl117_0;clear hi117_0 hl117_0;replace p117:=eq_true p117;replace q117:=eq_true q117;obtain⟨go22,co22,eo22,gb22,gl22,cl22,HG22⟩:=Kd.S_form HO_3.out (by have h_:(ex:Int)<((lsAt eTo l0_2 a0_0.toNat k).length:Int):=(of_decide_eq_true (by first|(with_reducible assumption)|assumption));have h2_:0≤(ex:Int):=(of_decide_eq_true (by first|(with_reducible assumption)|assumption));omega);(first|cases eo22|(injection eo22 with ea_ en_ ec_;(first|subst ea_|(injection ea_ with ea_;subst ea_));subst ec_;clear en_));have GB22:=Aside0.mk gb22;have GG22:=Aside0.mk HG22;clear gb22 gl22 HG22;(first|simp only[add_plain] at hx117_0|skip);obtain⟨oki22,ce22,hcl22,hM22,hcc22,_,_,hH22⟩:=Kd.S_elem HO_3.out [] (ex:Int) (of_decide_eq_true (by first|(with_reducible assumption)|assumption)) (by have h_:(ex:Int)<((lsAt eTo l0_2 a0_0.toNat k).length:Int):=of_decide_eq_true (by first|(with_reducible assumption)|assumption);first|exact h_|(have e_:=(Kd.S_reads' HO_3.out).1;omega)|simpa using h_);obtain⟨ve22_0,rfl,ge22_0⟩:=hM22;have hv22:=hcc22 0 _ rfl;have hX22:=HX117_0.out;(try simp only[add_plain] at hX22);(try simp only[Nat.add_zero] at hv22);(try rw[show ((Kd.slice 3 (Kd.int .i64))).sz=1 from rfl,Nat.mul_one] at hv22);replace hv22:=Option.some.inj (hv22.symm.trans hX22);subst hv22;clear hX22 hcc22 hcl22;have UU22:=Aside0.mk (show Kd.R (Kd.int .i64) 3 _ w.heap.size oki22 (.slice A117_0 (rd_L7 (lsAt eTo l0_2 a0_0.toNat k) ex).length c117_0) (rd_L7 (lsAt eTo l0_2 a0_0.toNat k) ex) from ge22_0);have HH22:=Aside0.mk hH22;have HN22:=Aside0.mk (Kd.S_reads' HO_3.out).1;clear hH22 ge22_0)|((with_reducible refine gate_builtin (b:= .append) (xs:= #[.tmp 28, .tmp 30]) rfl ?_);at_builtin;refine Kd.R_append (Kd.int .i64) (w0:=w) w.heap.size rfl (.tmp 28) (.tmp 30) 25 3 (.int .i64 0) 8 rfl Try.underlying25 info3 rfl (by decide) (by omega) (.slice A117_0 (rd_L7 (lsAt eTo l0_2 a0_0.toNat k) ex).length c117_0) (rd_L7 (lsAt eTo l0_2 a0_0.toNat k) ex) (k:Int) [.int .i64 (k:Int)] (fun k_=>oki22 k_∨((fun _=>True)) k_∧w20.heap.size≤k_) (fun _=>False) rfl rfl ?aP (fun _ hk=>hk.elim) ?aF ?aO ?aB ?aS ?aL ?_;(case aP=>exact rfl);(case aB=>exact(by repeat(first|(with_reducible first|exact HB.out|apply below_alloc|apply pw_below_drewN|apply below_drew1|refine below_set ?_ GE111.out)|exact HB.out)));(case aF=>exact(fun k_ hk=> .inr ⟨trivial,hk⟩));(case aO=>exact(by(with_reducible repeat(first|apply Kd.R_alloc|apply Kd.R_drewN|apply Kd.R_drew));exact Kd.R_mono UU22.out (fun _ hk=> .inl hk)));(case aS=>exact(below_size (by repeat(first|(with_reducible first|exact HB.out|apply below_alloc|apply pw_below_drewN|apply below_drew1|refine below_set ?_ GE111.out)|exact HB.out))));(case aL=>have:=LMc14.out;omega);intro v119 w23 ho hb hg hat;have n0_:=Aside0.mk (blk_grown (g:=gb111) (o:=(.cells #[.int .i64 a0_0, .bool a0_1, .slice (some ad115) l0_2.length c0_2] 24 (0,0))) (by(with_reducible repeat(first|refine blk_drewN ?_ _|refine blk_drew ?_|refine blk_alloc ?_ _));exact BK111.out) hg (Kd.R_ne HL117_0.out BK111.out (by decide)));have n2_:=Aside0.mk (hb);have n3_:=Aside0.mk (Kd.H_grown (Kd.H_widen (by repeat(first|exact HH22.out|refine Kd.H_alloc ?_ _|refine Kd.H_drewN ?_ _|refine Kd.H_drew ?_))) hg (fun k_ e_=> .inl (UU22.out.1 k_ e_)));have n4_:=Aside0.mk (ho);clear BK111;clear HB;clear HH22;clear HO_3;clear UU22;clear HL117_0;have BK111:=n0_;have HB:=n2_;have HH22:=n3_;have HO120:=n4_;clear n0_ n2_ n3_ n4_;clear ho hb hg hat;have p15:0≤(ex:Int):=(of_decide_eq_true (by first|(with_reducible assumption)|assumption));have q15:(ex:Int)<((lsAt eTo l0_2 a0_0.toNat k).length:Int):=(of_decide_eq_true (by first|(with_reducible assumption)|assumption));replace p15:=eq_true p15;replace q15:=eq_true q15;obtain⟨Ao26,co26,eo26⟩:=Kd.R_slice HO120.out;subst eo26;obtain⟨_,_,hraw24,_,_,hcc24,_⟩:=Kd.H_raw HH22.out (of_decide_eq_true (by first|(with_reducible assumption)|assumption)) (by have h_:(ex:Int)<((lsAt eTo l0_2 a0_0.toNat k).length:Int):=of_decide_eq_true (by first|(with_reducible assumption)|assumption);first|exact h_|(have e_:=(HN22.out);omega)|simpa using h_);obtain⟨_,hfr24⟩:=Kd.H_at HH22.out (of_decide_eq_true (by first|(with_reducible assumption)|assumption)) (by have h_:(ex:Int)<((lsAt eTo l0_2 a0_0.toNat k).length:Int):=of_decide_eq_true (by first|(with_reducible assumption)|assumption);first|exact h_|(have e_:=(HN22.out);omega)|simpa using h_);have hx24_0:=hcc24 0 _ rfl;have hf24_0:=hfr24 0;(try simp only[Nat.add_zero] at hx24_0 hf24_0);(try rw[show ((Kd.slice 3 (Kd.int .i64))).sz=1 from rfl,Nat.mul_one] at hx24_0);(try rw[show ((Kd.slice 3 (Kd.int .i64))).sz=1 from rfl,Nat.mul_one] at hf24_0);have HP24:=Kd.S_seg0 HH22.out (of_decide_eq_true (by first|(with_reducible assumption)|assumption)) (by have h_:(ex:Int)<((lsAt eTo l0_2 a0_0.toNat k).length:Int):=of_decide_eq_true (by first|(with_reducible assumption)|assumption);first|exact h_|(have e_:=(HN22.out);omega)|simpa using h_) (seg:=[.slice Ao26 (rd_L7 (lsAt eTo l0_2 a0_0.toNat k) ex ++ [(k:Int)]).length co26]) (j:=0) (show 1≤1 from by decide) (x':=rd_L7 (lsAt eTo l0_2 a0_0.toNat k) ex ++ [(k:Int)]) (Kd.M_row HO120.out) (fun _ hk=>hk);(try simp only[show ((Kd.slice 3 (Kd.int .i64))).sz=1 from rfl,Nat.mul_one,Nat.add_zero] at HP24);clear hcc24 hfr24)|((with_reducible refine gate_store (t:=25) (p:=32) rfl ?_);refine store_event (t:=25) (p:=32) (v:= ?vo_w25) (w1:=(w23.setCell ⟨go22,(ex:Int).toNat,none⟩ (.slice Ao26 (rd_L7 (lsAt eTo l0_2 a0_0.toNat k) ex ++ [(k:Int)]).length co26))) ?hg ?ho ?hn ?hr ?_;(case ho=>rfl);(case hg=>rfl);(case hn=>rfl);(case hr=>first|(go_simp;done)|(go_simp;rfl));intro w25 hw;have hg:w23.grownBy w25 (some go22):=(by rw[hw];exact HP24.2);have hp_:Kd.S (Kd.slice 3 (Kd.int .i64)) 25 w25 w.heap.size (fun _=>True) (.slice (some ⟨go22,0,none⟩) (lsAt eTo l0_2 a0_0.toNat k).length co21) (lsAt eTo l0_2 a0_0.toNat (k+1)):=(by rw[hw,LSN.out];exact HP24.1);clear HP24;have n0_:=Aside0.mk (blk_grown (g:=gb111) (o:=(.cells #[.int .i64 a0_0, .bool a0_1, .slice (some ad115) l0_2.length c0_2] 24 (0,0))) (by(with_reducible repeat(first|refine blk_drewN ?_ _|refine blk_drew ?_|refine blk_alloc ?_ _));exact BK111.out) hg (Kd.R_ne hraw24 BK111.out (by decide)));have n2_:=Aside0.mk ((by rw[hw];exact below_set HB.out GB22.out:Below w.heap.size w w25));have n3_:=Aside0.mk (hp_);clear BK111;clear HB;clear HO120;clear HH22;have BK111:=n0_;have HB:=n2_;have HO_3:=n3_;clear n0_ n2_ n3_;clear hg hw hp_ hraw24))
   go_roundw
   case rel=>exact⟨k+1,by omega,by first|rfl|go_num,⟨by(with_reducible repeat(first|apply Kd.S_alloc|apply Kd.S_drewN|apply Kd.S_drew));exact HO_3.out⟩,⟨by(with_reducible repeat(first|refine blk_drewN ?_ _|refine blk_drew ?_|refine blk_alloc ?_ _));exact BK111.out⟩,⟨(by repeat(first|(with_reducible first|exact HB.out|apply below_alloc|apply pw_below_drewN|apply below_drew1|refine below_set ?_ GE111.out)|exact HB.out))⟩⟩
   case measure=>simp[intOf]<;>omega
  ·have ek:k=l0_2.length:=by omega
   subst ek
   have c9b0:decide ((l0_2.length:Int)<(l0_2.length:Int))=false:=decide_eq_false (by omega)
   go_wp2
   go_ret
   exact⟨_,rfl,by(with_reducible repeat(first|apply Kd.S_alloc|apply Kd.S_drewN|apply Kd.S_drew));exact HO_3.out,(by repeat(first|(with_reducible first|exact HB.out|apply below_alloc|apply pw_below_drewN|apply below_drew1|refine below_set ?_ GE111.out)|exact HB.out))⟩
set_option maxHeartbeats 1000000 in
set_option maxRecDepth 100000 in
theorem leaving_calls (a0_0:Int) (a0_1:Bool) (A0_2:Option Addr) (c0_2:Nat) (l0_2:List S74) (w:World) (hr0_2:Kd.C k74 w A0_2 l0_2.length l0_2) (hc0_2:l0_2.length≤c0_2) (h0:0≤a0_0) (h1:a0_0≤1000000) (hl:l0_2.length≤1000000) (hE: ∀ k:Nat,k<l0_2.length→0≤eFrom (rd_T74 l0_2 k)∧eFrom (rd_T74 l0_2 k)<a0_0):
  Calls Try.prog 141 #[.agg #[.int .i64 a0_0, .bool a0_1, .slice A0_2 l0_2.length c0_2]] w fun e w'=> ∃ v0_:Value,e= .returned v0_∧Kd.S (Kd.slice 3 (Kd.int .i64)) 25 w' w.heap.size (fun _=>True) v0_ (lsAt eFrom l0_2 a0_0.toNat l0_2.length)∧Below w.heap.size w w':=by
 have hu24:=Try.underlying24
 have HR0_2:=Aside0.mk hr0_2
 have HC0_2:=Aside0.mk hc0_2
 have HE:=Aside0.mk hE
 clear hr0_2 hc0_2 hE
 have HB:=Aside0.mk (Below.refl w.heap.size w)
 go_enter Try.func141,Try.ntmps141
 go_wp2_with (first|((with_reducible refine gate_dst (N:=1) rfl ?_);refine box_event ?hg (N:=1) ?hd (cs:= #[.int .i64 a0_0, .bool a0_1, .slice A0_2 l0_2.length c0_2]) (t:=24) ?hr ?_;(case hd=>rfl);(case hg=>rfl);(case hr=>first|(go_simp;done)|(go_simp;rfl));intro gb111 hg w4 hbox hb;have n0_:=Aside0.mk (below_step (by repeat(first|(with_reducible first|exact HB.out|apply below_alloc|apply pw_below_drewN|apply below_drew1)|exact HB.out)) hb);have n1_:=Aside0.mk (hbox);have n2_:=Aside0.mk (Kd.C_below HR0_2.out hb);clear HB HR0_2;have HB:=n0_;have BK111:=n1_;have HR0_2:=n2_;clear n0_ n1_ n2_;clear hb hbox hg;have hcz5_0:w4.cell? ⟨gb111,0,none⟩=some (.int .i64 a0_0):=(blk_cell BK111.out 0).trans rfl;have hcz5_1:w4.cell? ⟨gb111,1,none⟩=some (.bool a0_1):=(blk_cell BK111.out 1).trans rfl;have hcz5_2:w4.cell? ⟨gb111,2,none⟩=some (.slice A0_2 l0_2.length c0_2):=(blk_cell BK111.out 2).trans rfl)|fail)
 refine(listsFrom_calls a0_0 a0_1 A0_2 c0_2 l0_2 _ HR0_2.out HC0_2.out h0 h1 hl HE.out).mono ?_
 rintro e w5 ⟨v0,rfl,hS,hb⟩
 have HS:=Aside0.mk (Kd.S_lower hS HB.out.size)
 have HB5:=Aside0.mk (below_step HB.out hb)
 clear hS hb hcz5_0 hcz5_1 hcz5_2 BK111
 go_wp2
 go_ret
 exact⟨_,rfl,HS.out,HB5.out⟩
set_option maxHeartbeats 1000000 in
set_option maxRecDepth 100000 in
theorem coming_calls (a0_0:Int) (a0_1:Bool) (A0_2:Option Addr) (c0_2:Nat) (l0_2:List S74) (w:World) (hr0_2:Kd.C k74 w A0_2 l0_2.length l0_2) (hc0_2:l0_2.length≤c0_2) (h0:0≤a0_0) (h1:a0_0≤1000000) (hl:l0_2.length≤1000000) (hE: ∀ k:Nat,k<l0_2.length→0≤eTo (rd_T74 l0_2 k)∧eTo (rd_T74 l0_2 k)<a0_0):
  Calls Try.prog 142 #[.agg #[.int .i64 a0_0, .bool a0_1, .slice A0_2 l0_2.length c0_2]] w fun e w'=> ∃ v0_:Value,e= .returned v0_∧Kd.S (Kd.slice 3 (Kd.int .i64)) 25 w' w.heap.size (fun _=>True) v0_ (lsAt eTo l0_2 a0_0.toNat l0_2.length)∧Below w.heap.size w w':=by
 have hu24:=Try.underlying24
 have HR0_2:=Aside0.mk hr0_2
 have HC0_2:=Aside0.mk hc0_2
 have HE:=Aside0.mk hE
 clear hr0_2 hc0_2 hE
 have HB:=Aside0.mk (Below.refl w.heap.size w)
 go_enter Try.func142,Try.ntmps142
 go_wp2_with (first|((with_reducible refine gate_dst (N:=1) rfl ?_);refine box_event ?hg (N:=1) ?hd (cs:= #[.int .i64 a0_0, .bool a0_1, .slice A0_2 l0_2.length c0_2]) (t:=24) ?hr ?_;(case hd=>rfl);(case hg=>rfl);(case hr=>first|(go_simp;done)|(go_simp;rfl));intro gb111 hg w4 hbox hb;have n0_:=Aside0.mk (below_step (by repeat(first|(with_reducible first|exact HB.out|apply below_alloc|apply pw_below_drewN|apply below_drew1)|exact HB.out)) hb);have n1_:=Aside0.mk (hbox);have n2_:=Aside0.mk (Kd.C_below HR0_2.out hb);clear HB HR0_2;have HB:=n0_;have BK111:=n1_;have HR0_2:=n2_;clear n0_ n1_ n2_;clear hb hbox hg;have hcz5_0:w4.cell? ⟨gb111,0,none⟩=some (.int .i64 a0_0):=(blk_cell BK111.out 0).trans rfl;have hcz5_1:w4.cell? ⟨gb111,1,none⟩=some (.bool a0_1):=(blk_cell BK111.out 1).trans rfl;have hcz5_2:w4.cell? ⟨gb111,2,none⟩=some (.slice A0_2 l0_2.length c0_2):=(blk_cell BK111.out 2).trans rfl)|fail)
 refine(listsTo_calls a0_0 a0_1 A0_2 c0_2 l0_2 _ HR0_2.out HC0_2.out h0 h1 hl HE.out).mono ?_
 rintro e w5 ⟨v0,rfl,hS,hb⟩
 have HS:=Aside0.mk (Kd.S_lower hS HB.out.size)
 have HB5:=Aside0.mk (below_step HB.out hb)
 clear hS hb hcz5_0 hcz5_1 hcz5_2 BK111
 go_wp2
 go_ret
 exact⟨_,rfl,HS.out,HB5.out⟩
end Go.Proofs.Ytkcpanpdipmmmaa.H
namespace Go.Proofs.Ytkcpanpdipmmmaa.H
open Go.RowKit Go.Proofs.YtkcpanpdipmmmaaW.PrintWords Go.Proofs.YtkcpanpdipmmmaaW.PrintLast Go.Proofs.YtkcpanpdipmmmaaW.PrintMore Go.Proofs.Ytkcpanpdipmmmaa.P
def stL (l:List S74) (v:Int):Nat→List S38
 |0=>[]
 |k+1=>stL l v k ++ (if eFrom (rd_T74 l k)=v then [⟨k,false⟩] else []) ++ (if eTo (rd_T74 l k)=v then [⟨k,true⟩] else [])
def ltS (x y:S38):Prop:=x.f0<y.f0∨x.f0=y.f0∧x.f1=false∧y.f1=true
def IsSt (l:List S74) (v:Int) (k:Nat) (s:S38):Prop:= ∃ i:Nat,i<k∧s.f0=i∧(s.f1=false∧eFrom (rd_T74 l i)=v∨s.f1=true∧eTo (rd_T74 l i)=v)
theorem mem_stL (l:List S74) (v:Int) (k:Nat) (s:S38):s∈stL l v k↔IsSt l v k s:=by
 induction k with
 |zero=>
  constructor
  ·intro h;cases h
  ·rintro⟨i,h,_⟩;omega
 |succ k ih=>
  unfold stL
  rw[List.mem_append,List.mem_append,ih]
  constructor
  ·rintro((⟨i,h1,h2⟩|h)|h)
   ·exact⟨i,by omega,h2⟩
   ·split at h
    ·rename_i he
     rw[List.mem_singleton] at h
     subst h
     exact⟨k,by omega,rfl,Or.inl ⟨rfl,he⟩⟩
    ·cases h
   ·split at h
    ·rename_i he
     rw[List.mem_singleton] at h
     subst h
     exact⟨k,by omega,rfl,Or.inr ⟨rfl,he⟩⟩
    ·cases h
  ·rintro⟨i,h1,h2,h3⟩
   by_cases hi:i<k
   ·exact Or.inl (Or.inl ⟨i,hi,h2,h3⟩)
   ·have e:i=k:=by omega
    subst e
    obtain⟨x,y⟩:=s
    simp only at h2 h3
    subst h2
    rcases h3 with ⟨rfl,h4⟩|⟨rfl,h4⟩
    ·exact Or.inl (Or.inr (by rw[if_pos h4];exact List.mem_singleton.2 rfl))
    ·exact Or.inr (by rw[if_pos h4];exact List.mem_singleton.2 rfl)
theorem sorted_stL (l:List S74) (v:Int) (k:Nat):(stL l v k).Pairwise ltS:=by
 induction k with
 |zero=>exact List.Pairwise.nil
 |succ k ih=>
  unfold stL
  rw[List.pairwise_append,List.pairwise_append]
  refine⟨⟨ih,by split<;>simp,fun a ha b hb=> ?_⟩,by split<;>simp,fun a ha b hb=> ?_⟩
  ·obtain⟨i,h1,h2,_⟩:=(mem_stL l v k a).1 ha
   split at hb
   ·rw[List.mem_singleton] at hb
    subst hb
    exact Or.inl (by show a.f0<(k:Int);omega)
   ·cases hb
  ·split at hb
   ·rw[List.mem_singleton] at hb
    subst hb
    rcases List.mem_append.1 ha with ha|ha
    ·obtain⟨i,h1,h2,_⟩:=(mem_stL l v k a).1 ha
     exact Or.inl (by show a.f0<(k:Int);omega)
    ·split at ha
     ·rw[List.mem_singleton] at ha
      subst ha
      exact Or.inr ⟨rfl,rfl,rfl⟩
     ·cases ha
   ·cases hb
theorem ltS_irr (x:S38): ¬ ltS x x:=by
 rintro(h|⟨_,h1,h2⟩)
 ·omega
 ·rw[h1] at h2;cases h2
theorem ltS_trans {x y z:S38} (h:ltS x y) (k:ltS y z):ltS x z:=by
 rcases h with h|⟨h1,h2,h3⟩<;>rcases k with k|⟨k1,k2,k3⟩
 ·exact Or.inl (by omega)
 ·exact Or.inl (by omega)
 ·exact Or.inl (by omega)
 ·rw[h3] at k2;cases k2
theorem sorted_uniq: ∀ (a b:List S38),a.Pairwise ltS→b.Pairwise ltS→(∀ s,s∈a↔s∈b)→a=b
 |[],[],_,_,_=>rfl
 |[],y::b,_,_,h=>by have:=(h y).2 (List.mem_cons_self ..);cases this
 |x::a,[],_,_,h=>by have:=(h x).1 (List.mem_cons_self ..);cases this
 |x::a,y::b,ha,hb,h=>by
  rw[List.pairwise_cons] at ha hb
  have e:x=y:=by
   rcases List.mem_cons.1 ((h x).1 (List.mem_cons_self ..)) with e|h1
   ·exact e
   ·rcases List.mem_cons.1 ((h y).2 (List.mem_cons_self ..)) with e|h2
    ·exact e.symm
    ·exact absurd (ltS_trans (ha.1 y h2) (hb.1 x h1)) (ltS_irr x)
  subst e
  rw[sorted_uniq a b ha.2 hb.2 fun s=>⟨fun hs=> ?_,fun hs=> ?_⟩]
  ·rcases List.mem_cons.1 ((h s).1 (List.mem_cons_of_mem _ hs)) with e|h1
   ·subst e;exact absurd (ha.1 s hs) (ltS_irr s)
   ·exact h1
  ·rcases List.mem_cons.1 ((h s).2 (List.mem_cons_of_mem _ hs)) with e|h1
   ·subst e;exact absurd (hb.1 s hs) (ltS_irr s)
   ·exact h1
theorem lsAt_spec (E:S74→Int) (l:List S74) (n:Nat) (v:Int) (hv0:0≤v) (hv:v<n): ∀ k:Nat,(∀ i:Nat,i<k→0≤E (rd_T74 l i)∧E (rd_T74 l i)<n)→
  (∀ x,x∈rd_L7 (lsAt E l n k) v↔ ∃ i:Nat,i<k∧x=i∧E (rd_T74 l i)=v)∧(rd_L7 (lsAt E l n k) v).Pairwise (· < ·):=by
 intro k
 induction k with
 |zero=>
  intro _
  have e:rd_L7 (lsAt E l n 0) v=[]:=by
   unfold rd_L7 lsAt
   rw[List.getD_eq_getElem?_getD,List.getElem?_replicate]
   split<;>rfl
  rw[e]
  refine⟨fun x=>Iff.intro (fun h=>by cases h) ?_,List.Pairwise.nil⟩
  rintro⟨i,h,_⟩;omega
 |succ k ih=>
  intro hE
  obtain⟨h1,h2⟩:=ih fun i hi=>hE i (by omega)
  have hk:=hE k (by omega)
  by_cases c:E (rd_T74 l k)=v
  ·have e:rd_L7 (lsAt E l n (k+1)) v=rd_L7 (lsAt E l n k) v ++ [(k:Int)]:=by
    show (List.set _ _ _).getD v.toNat []=_
    rw[c,List.getD_eq_getElem?_getD,List.getElem?_set_self (by rw[lsAt_len];omega)]
    rfl
   rw[e]
   refine⟨fun x=> ?_,?_⟩
   ·rw[List.mem_append,h1,List.mem_singleton]
    constructor
    ·rintro(⟨i,a,b,d⟩|rfl)
     ·exact⟨i,by omega,b,d⟩
     ·exact⟨k,by omega,rfl,c⟩
    ·rintro⟨i,a,b,d⟩
     by_cases hi:i<k
     ·exact Or.inl ⟨i,hi,b,d⟩
     ·exact Or.inr (by rw[b];congr 1;omega)
   ·rw[List.pairwise_append]
    refine⟨h2,List.pairwise_singleton _ _,fun a ha b hb=> ?_⟩
    rw[List.mem_singleton] at hb
    obtain⟨i,q1,q2,_⟩:=(h1 a).1 ha
    omega
  ·have e:rd_L7 (lsAt E l n (k+1)) v=rd_L7 (lsAt E l n k) v:=by
    show (List.set _ _ _).getD v.toNat []=_
    rw[List.getD_eq_getElem?_getD,List.getElem?_set_ne (by omega), ← List.getD_eq_getElem?_getD]
    rfl
   rw[e]
   refine⟨fun x=> ?_,h2⟩
   rw[h1]
   constructor
   ·rintro⟨i,a,b,d⟩;exact⟨i,by omega,b,d⟩
   ·rintro⟨i,a,b,d⟩
    by_cases hi:i<k
    ·exact⟨i,hi,b,d⟩
    ·have e2:i=k:=by omega
     subst e2;exact absurd d c
def stepsU (l:List S74) (n:Nat) (v:Int):List S38:=
 (rd_L7 (lsAt eFrom l n l.length) v).map (fun i=>⟨i,false⟩) ++ (rd_L7 (lsAt eTo l n l.length) v).map (fun i=>⟨i,true⟩)
def ends (l:List S74) (n:Nat):Prop:= ∀ i:Nat,i<l.length→(0≤eFrom (rd_T74 l i)∧eFrom (rd_T74 l i)<n)∧(0≤eTo (rd_T74 l i)∧eTo (rd_T74 l i)<n)
theorem mem_stepsU (l:List S74) (n:Nat) (v:Int) (hv0:0≤v) (hv:v<n) (h:ends l n) (s:S38):s∈stepsU l n v↔IsSt l v l.length s:=by
 have hf:=(lsAt_spec eFrom l n v hv0 hv l.length fun i hi=>(h i hi).1).1
 have ht:=(lsAt_spec eTo l n v hv0 hv l.length fun i hi=>(h i hi).2).1
 unfold stepsU
 rw[List.mem_append,List.mem_map,List.mem_map]
 constructor
 ·rintro(⟨x,hx,rfl⟩|⟨x,hx,rfl⟩)
  ·obtain⟨i,a,b,d⟩:=(hf x).1 hx
   exact⟨i,a,b,Or.inl ⟨rfl,d⟩⟩
  ·obtain⟨i,a,b,d⟩:=(ht x).1 hx
   exact⟨i,a,b,Or.inr ⟨rfl,d⟩⟩
 ·rintro⟨i,a,b,⟨c,d⟩|⟨c,d⟩⟩
  ·exact Or.inl ⟨s.f0,(hf _).2 ⟨i,a,b,d⟩,by obtain⟨x,y⟩:=s;simp only at c;subst c;rfl⟩
  ·exact Or.inr ⟨s.f0,(ht _).2 ⟨i,a,b,d⟩,by obtain⟨x,y⟩:=s;simp only at c;subst c;rfl⟩
theorem stab_stepsU (l:List S74) (n:Nat) (v:Int) (hv0:0≤v) (hv:v<n) (h:ends l n):(stepsU l n v).Pairwise fun x y=>x.f0=y.f0→x.f1=false∧y.f1=true:=by
 have hf:=(lsAt_spec eFrom l n v hv0 hv l.length fun i hi=>(h i hi).1).2
 have ht:=(lsAt_spec eTo l n v hv0 hv l.length fun i hi=>(h i hi).2).2
 unfold stepsU
 rw[List.pairwise_append,List.pairwise_map,List.pairwise_map]
 refine⟨hf.imp fun {a b} hab e=> ?_,ht.imp fun {a b} hab e=> ?_,fun a ha b hb e=> ?_⟩
 ·simp only at e;omega
 ·simp only at e;omega
 ·obtain⟨x,_,rfl⟩:=List.mem_map.1 ha
  obtain⟨y,_,rfl⟩:=List.mem_map.1 hb
  exact⟨rfl,rfl⟩
end Go.Proofs.Ytkcpanpdipmmmaa.H
namespace Go.Proofs.Ytkcpanpdipmmmaa.H
open Go.RowKit Go.Proofs.YtkcpanpdipmmmaaW.PrintWords Go.Proofs.YtkcpanpdipmmmaaW.PrintLast Go.Proofs.YtkcpanpdipmmmaaW.PrintMore Go.Proofs.Ytkcpanpdipmmmaa.P
def stFrom (l:List S74) (s:S38):Int:=if s.f1 then eTo (rd_T74 l s.f0) else eFrom (rd_T74 l s.f0)
def stTo (l:List S74) (s:S38):Int:=if s.f1 then eFrom (rd_T74 l s.f0) else eTo (rd_T74 l s.f0)
def stRoom (l:List S74) (F:List Int) (s:S38):Int:=if s.f1 then F.getD s.f0.toNat 0 else(rd_T74 l s.f0).f2 - F.getD s.f0.toNat 0
theorem getD_set_ne {β:Type} (L:List β) (i j:Nat) (x d:β) (h:i≠j):(L.set i x).getD j d=L.getD j d:=by
 rw[List.getD_eq_getElem?_getD,List.getElem?_set_ne h,List.getD_eq_getElem?_getD]
theorem getD_set_eq {β:Type} (L:List β) (i:Nat) (x d:β) (h:i<L.length):(L.set i x).getD i d=x:=by
 rw[List.getD_eq_getElem?_getD,List.getElem?_set_self h]
 rfl
end Go.Proofs.Ytkcpanpdipmmmaa.H
namespace Go.Proofs.Ytkcpanpdipmmmaa.H
open Go.RowKit Go.Proofs.YtkcpanpdipmmmaaW.PrintWords
structure BelowW (w:World) where
 at_:World
 below:Below w.heap.size w at_
instance (w:World):Inhabited (BelowW w):=⟨⟨w,Below.refl _ _⟩⟩
theorem wp_region_quiet_below {P:Program} {id:Nat} {Q:Exit→Act→World→Prop} {a:Act} {w:World} {l:List Oper} (hm:P.follows .mixedOrders=true) (hB:Region.lexB .any l.toArray=true)
  (h:wpQuiet P l.toArray (fun w'=> ∃ p:BelowW w,w'=p.at_) (fun a'=> ∀ w',(∃ p:BelowW w,w'=p.at_)→Q .normal a' w') l a):(Code.region id l.toArray true).wp P Q a w:=
 wp_region_quiet (C:=fun w'=> ∃ p:BelowW w,w'=p.at_) hm hB ⟨⟨w.drew,below_drew (Below.refl _ _)⟩,rfl⟩ (by simpa using h)
theorem calls_below_of {P:Program} {f:FuncId} {args:Array Value} {w:World} {p:BelowW w} {v:Value} (h:Calls P f args p.at_ fun e w'=>e= .returned v∧Below p.at_.heap.size p.at_ w'):
  Calls P f args p.at_ fun e w''=>e= .returned v∧ ∃ q:BelowW w,w''=q.at_:=
 h.mono fun _ w' ⟨he,hb⟩=>⟨he,⟨w',below_then p.below p.below.size hb⟩,rfl⟩
theorem BelowW.cell {w:World} (p:BelowW w) {a:Addr} {v:Value} (h:w.cell? a=some v):p.at_.cell? a=some v:=pw_cell_below p.below h
end Go.Proofs.Ytkcpanpdipmmmaa.H
namespace Go.Proofs.Ytkcpanpdipmmmaa.H
open Go.RowKit Go.Proofs.YtkcpanpdipmmmaaW.PrintWords Go.Proofs.YtkcpanpdipmmmaaW.PrintLast Go.Proofs.YtkcpanpdipmmmaaW.PrintMore Go.Proofs.Ytkcpanpdipmmmaa.P
attribute [local irreducible] wpQuiet
set_option maxRecDepth 100000 in
theorem cmp_calls (x y:S38) (hx0:0≤x.f0) (hx1:x.f0≤1000000) (hy0:0≤y.f0) (hy1:y.f0≤1000000) (w:World):
  Calls Try.prog 144 #[.agg #[.int .i64 x.f0, .bool x.f1], .agg #[.int .i64 y.f0, .bool y.f1]] w fun e w'=>e= .returned (.int .i64 (x.f0 - y.f0))∧Below w.heap.size w w':=by
 go_enter Try.func144,Try.ntmps144
 go_wp2
 go_ret
 exact⟨rfl,((Below.refl _ _).alloc (Nat.le_refl _) _).alloc (by simp) _⟩
set_option maxHeartbeats 1000000 in
set_option maxRecDepth 100000 in
theorem insertion_calls (g N cap:Nat) (M:Nat→S38) (a b:Nat) (w:World) (h:Arr w g N M) (hN:N≤1000000) (hab:a≤b) (hb:b≤N) (hs:Stab M N) (hsm:Small M N):
  Calls Try.prog 169 #[.slice (some ⟨g,0,none⟩) N cap, .int .i64 (a:Int), .int .i64 (b:Int), .func (.func 144) #[] #[]] w fun e w'=>e= .returned (.tuple #[])∧(∃ K,Arr w' g N K∧Sorted M K N a b)∧Fr w w' g:=by
 have HA:=Aside0.mk h
 have HSM:=Aside0.mk hsm
 have HST:=Aside0.mk hs
 clear h hs hsm
 go_enter Try.func169,Try.ntmps169
 go_wp2
 go_loopw [8] (fun i wr=> ∃ k:Nat,a+1≤k∧(k≤b∨k=a+1)∧i= .int .i64 k∧(∃ K,Aside0 (Arr wr g N K)∧Aside0 (Mix M K a b∧Stab K N∧Small K N∧Le K a k))∧Aside0 (Fr w wr g)) (fun i _=>b+1 - (intOf i).toNat)
 case atStart=>exact⟨a+1,by omega,by omega,by go_num,⟨M,HA,⟨mix_refl _ _ _,HST.out,HSM.out,le_one _ _ _ (Nat.le_refl _)⟩⟩,⟨grow_refl _ _⟩⟩
 case round=>
  obtain⟨k,hk0,hk,rfl,⟨K,HA1,HK1⟩,HG⟩:=hrel
  clear HA HSM HST
  by_cases hlt:k<b
  ·have HH:Aside0 (Mix M K a b∧Stab K N∧Small K N∧Hole K a k k):=⟨HK1.out.1,HK1.out.2.1,HK1.out.2.2.1,hole_start HK1.out.2.2.2⟩
   clear HK1
   go_wp2
   obtain⟨wo,rfl⟩: ∃ wo:World,wo=wr:=⟨_,rfl⟩
   go_loopw [9] (fun vj wr=> ∃ j:Nat,a≤j∧j≤k∧vj= .int .i64 j∧(∃ K,Aside0 (Arr wr g N K)∧Aside0 (Mix M K a b∧Stab K N∧Small K N∧Hole K a k j))∧Aside0 (Fr w wr g)) (fun vj _=>(intOf vj).toNat)
   case atStart=>exact⟨k,by omega,Nat.le_refl _,rfl,⟨K,HA1,HH⟩,HG⟩
   case round=>
    clear HA1 HH HG
    obtain⟨j,hj0,hj,rfl,⟨K,HA1,HK⟩,HG⟩:=hrel
    by_cases hja:a<j
    ·obtain⟨jp,rfl⟩: ∃ jp,j=jp+1:=⟨j - 1,by omega⟩
     have c0:=HA1.out.cell0 (x:=jp+1) (by omega)
     have c1:=HA1.out.cell1 (x:=jp+1) (by omega)
     have d0:=HA1.out.cell0 (x:=jp) (by omega)
     have d1:=HA1.out.cell1 (x:=jp) (by omega)
     have cc0: ∀ p:BelowW wr,p.at_.cell? ⟨g,(jp+1) * 2,none⟩=some (.int .i64 (K (jp+1)).f0):=fun p=>p.cell c0
     have cc1: ∀ p:BelowW wr,p.at_.cell? ⟨g,(jp+1) * 2+1,none⟩=some (.bool (K (jp+1)).f1):=fun p=>p.cell c1
     have dd0: ∀ p:BelowW wr,p.at_.cell? ⟨g,jp * 2,none⟩=some (.int .i64 (K jp).f0):=fun p=>p.cell d0
     have dd1: ∀ p:BelowW wr,p.at_.cell? ⟨g,jp * 2+1,none⟩=some (.bool (K jp).f1):=fun p=>p.cell d1
     have hwp:IntKind.i64.wrap (jp:Int)=(jp:Int):=by rw[IntKind.wrap_i64];omega
     have jz:(jp:Int)+1<(N:Int):=by omega
     have jz1:(jp:Int)<(N:Int):=by omega
     have p0:(0:Int)≤(jp:Int)+1:=by omega
     have e0:((jp:Int)+1).toNat=jp+1:=by omega
     have g1:(a:Int)<(jp:Int)+1:=by omega
     have e1:=HK.out.2.2.1 (jp+1) (by omega)
     have e2:=HK.out.2.2.1 jp (by omega)
     clear c0 c1 d0 d1
     go_wp2
     refine wp_region_quiet_below (by kernel_rfl) (by kernel_rfl) ?_;(repeat(quiet_step ((go_at_call 144;exact calls_below_of (cmp_calls (K (jp+1)) (K jp) e1.1 e1.2 e2.1 e2.2 _)))));refine wpQuiet_nil ?_;intro wq hw';obtain⟨⟨wz,hbq⟩,hwq⟩:=hw';subst hwq
     have HA2:Aside0 (Arr wq g N K):=⟨HA1.out.below hbq⟩
     have HG2:Aside0 (Fr w wq g):=⟨grow_trans HG.out (grow_below hbq)⟩
     clear cc0 cc1 dd0 dd1 HA1 HG hbq
     by_cases hc:(K (jp+1)).f0<(K jp).f0
     ·have hcd:(K (jp+1)).f0 - (K jp).f0<0:=by omega
      have HK2:Aside0 (Mix M (sw K jp) a b∧Stab (sw K jp) N∧Small (sw K jp) N∧Hole (sw K jp) a k jp):=
       ⟨mix_trans HK.out.1 (sw_mix K jp a b (by omega) (by omega)),sw_stab HK.out.2.1 (by omega) hc,mix_small (sw_mix K jp a b (by omega) (by omega)) hb HK.out.2.2.1,hole_swap HK.out.2.2.2 (by omega) (by omega) hc⟩
      have c0:=HA2.out.cell0 (x:=jp+1) (by omega)
      have c1:=HA2.out.cell1 (x:=jp+1) (by omega)
      have d0:=HA2.out.cell0 (x:=jp) (by omega)
      have d1:=HA2.out.cell1 (x:=jp) (by omega)
      have f0:=HA2.out.free
      have HE:Aside0 (∀ x,upd (upd K (jp+1) (K jp)) jp (K (jp+1)) x=sw K jp x):=⟨sw_put1 K jp⟩
      obtain⟨s1,hs1⟩: ∃ s,K (jp+1)=s:=⟨_,rfl⟩
      obtain⟨s2,hs2⟩: ∃ s,K jp=s:=⟨_,rfl⟩
      have HE2:Aside0 (∀ x,upd (upd K (jp+1) s2) jp s1 x=sw K jp x):=by rw[← hs1, ← hs2];exact HE
      rw[hs1] at c0 c1 hcd ⊢
      rw[hs2] at d0 d1 hcd ⊢
      clear e1 e2 HK hc HE hs1 hs2
      go_wp2_with fail
      go_region
      have HA3:Aside0 (Arr (((((wq.setCell ⟨g,(jp+1) * 2,none⟩ (.int .i64 s2.f0)).setCell ⟨g,(jp+1) * 2+1,none⟩ (.bool s2.f1)).setCell ⟨g,jp * 2,none⟩ (.int .i64 s1.f0)).setCell ⟨g,jp * 2+1,none⟩ (.bool s1.f1)).drew) g N (sw K jp)):=
       ⟨(((HA2.out.put (by omega) s2).put (by omega) s1).drew).congr fun x _=>(HE2.out x).symm⟩
      have HG3:=Aside0.mk (grow_drew (grow_set (grow_set (grow_set (grow_set HG2.out ((jp+1) * 2) (.int .i64 s2.f0)) ((jp+1) * 2+1) (.bool s2.f1)) (jp * 2) (.int .i64 s1.f0)) (jp * 2+1) (.bool s1.f1)))
      clear c0 c1 d0 d1 f0 HA2 HG2 HE2
      go_wp2
      go_roundw
      case rel=>exact⟨jp,by omega,by omega,rfl,⟨_,HA3,HK2⟩,HG3⟩
      case measure=>simp[intOf]<;>omega
     ·have hcd: ¬ ((K (jp+1)).f0 - (K jp).f0<0):=by omega
      have HK2:Aside0 (Mix M K a b∧Stab K N∧Small K N∧Le K a (k+1)):=
       ⟨HK.out.1,HK.out.2.1,HK.out.2.2.1,hole_stop HK.out.2.2.2 (Or.inr ⟨by omega,by rw[Nat.add_sub_cancel];omega⟩)⟩
      clear e1 e2 HK hc
      go_wp2_with fail
      go_roundw
      case rel=>exact⟨k+1,by omega,by omega,by go_num,⟨_,HA2,HK2⟩,HG2⟩
      case measure=>simp[intOf]<;>omega
    ·have ej:j=a:=by omega
     have HK2:Aside0 (Mix M K a b∧Stab K N∧Small K N∧Le K a (k+1)):=
      ⟨HK.out.1,HK.out.2.1,HK.out.2.2.1,hole_stop HK.out.2.2.2 (Or.inl ej)⟩
     have g1: ¬ ((a:Int)<(j:Int)):=by omega
     clear HK
     go_wp2
     refine wp_region_quiet_below (by kernel_rfl) (by kernel_rfl) ?_;(repeat(quiet_step ((fail))));refine wpQuiet_nil ?_;intro wq hw';obtain⟨⟨wz,hbq⟩,hwq⟩:=hw';subst hwq
     have HA2:Aside0 (Arr wq g N K):=⟨HA1.out.below hbq⟩
     have HG2:Aside0 (Fr w wq g):=⟨grow_trans HG.out (grow_below hbq)⟩
     clear HA1 HG hbq
     go_wp2_with fail
     go_roundw
     case rel=>exact⟨k+1,by omega,by omega,by go_num,⟨_,HA2,HK2⟩,HG2⟩
     case measure=>simp[intOf]<;>omega
  ·go_wp2
   go_end0
   refine⟨rfl,⟨K,HA1.out,HK1.out.1,HK1.out.2.1,HK1.out.2.2.1,?_⟩,HG.out⟩
   intro x y h1 h2 h3
   exact HK1.out.2.2.2 x y h1 h2 (by omega)
end Go.Proofs.Ytkcpanpdipmmmaa.H
namespace Go.Proofs.Ytkcpanpdipmmmaa.H
open Go.RowKit Go.Proofs.YtkcpanpdipmmmaaW.PrintWords Go.Proofs.YtkcpanpdipmmmaaW.PrintLast Go.Proofs.YtkcpanpdipmmmaaW.PrintMore Go.Proofs.Ytkcpanpdipmmmaa.P
attribute [local irreducible] wpQuiet
theorem Arr.q0 {w:World} {g N:Nat} {M:Nat→S38} (h:Arr w g N M) {x:Nat} (hx:x<N): ∀ p:BelowW w,p.at_.cell? ⟨g,x * 2,none⟩=some (.int .i64 (M x).f0):=fun p=>p.cell (h.cell0 hx)
theorem Arr.q1 {w:World} {g N:Nat} {M:Nat→S38} (h:Arr w g N M) {x:Nat} (hx:x<N): ∀ p:BelowW w,p.at_.cell? ⟨g,x * 2+1,none⟩=some (.bool (M x).f1):=fun p=>p.cell (h.cell1 hx)
set_option maxHeartbeats 1000000 in
set_option maxRecDepth 100000 in
theorem symLo_calls (g N cap:Nat) (M:Nat→S38) (a b:Nat) (w:World) (h:Arr w g N M) (hN:N≤1000000) (hab:a+1<b) (hb:b≤N) (hs:Stab M N) (hsm:Small M N) (hle:Le M (a+1) b):
  Calls Try.prog 170 #[.slice (some ⟨g,0,none⟩) N cap, .int .i64 (a:Int), .int .i64 ((a:Int)+1), .int .i64 (b:Int), .func (.func 144) #[] #[]] w fun e w'=>e= .returned (.tuple #[])∧(∃ K,Arr w' g N K∧Sorted M K N a b)∧Fr w w' g:=by
 have HA:=Aside0.mk h
 have HSM:=Aside0.mk hsm
 have HST:=Aside0.mk hs
 have HLE:=Aside0.mk hle
 clear h hs hsm hle
 have e1:(a:Int)+1 - (a:Int)=1:=by omega
 go_enter Try.func170,Try.ntmps170
 go_wp2_with fail
 go_loopw [10,11] (fun vi vj wr=> ∃ i j:Nat,a+1≤i∧i≤j∧j≤b∧vi= .int .i64 i∧vj= .int .i64 j∧Aside0 (Arr wr g N M)∧Aside0 (∀ y,a+1≤y→y<i→(M y).f0<(M a).f0)∧Aside0 (∀ y,j≤y→y<b→(M a).f0≤(M y).f0)∧Aside0 (Fr w wr g)) (fun vi vj _=>(intOf vj).toNat - (intOf vi).toNat)
 case atStart=>exact⟨a+1,b,Nat.le_refl _,by omega,Nat.le_refl _,by go_num,rfl,HA,⟨fun y h1 h2=>by omega⟩,⟨fun y h1 h2=>by omega⟩,⟨grow_refl _ _⟩⟩
 case round=>
  clear HA
  obtain⟨i,j,hi,hij,hj,rfl,rfl,HA1,HL,HR,HG⟩:=hrel
  by_cases hlt:i<j
  ·obtain⟨c,hc⟩: ∃ c,(i+j) / 2=c:=⟨_,rfl⟩
   have hcz:((i:Int)+(j:Int)) / 2=(c:Int):=by omega
   have b1:=HSM.out c (by omega)
   have b2:=HSM.out a (by omega)
   have c0:=HA1.out.q0 (x:=c) (by omega)
   have c1:=HA1.out.q1 (x:=c) (by omega)
   have d0:=HA1.out.q0 (x:=a) (by omega)
   have d1:=HA1.out.q1 (x:=a) (by omega)
   have z1:(c:Int)<(N:Int):=by omega
   have z2:(a:Int)<(N:Int):=by omega
   go_wp2_with fail
   refine wp_region_quiet_below (by kernel_rfl) (by kernel_rfl) ?_;(repeat(quiet_step ((go_at_call 144;exact calls_below_of (cmp_calls (M c) (M a) b1.1 b1.2 b2.1 b2.2 _)))));refine wpQuiet_nil ?_;intro wq hw';obtain⟨⟨wz,hbq⟩,hwq⟩:=hw';subst hwq
   have HA2:Aside0 (Arr wq g N M):=⟨HA1.out.below hbq⟩
   have HG2:Aside0 (Fr w wq g):=⟨grow_trans HG.out (grow_below hbq)⟩
   have HC:=Aside0.mk hc
   clear c0 c1 d0 d1 HA1 HG hbq hcz hc
   have HC2:Aside0 (a+1≤c∧i≤c∧c<j):=by have:=HC.out;exact⟨by omega,by omega,by omega⟩
   clear HC
   by_cases hlc:(M c).f0<(M a).f0
   ·have hcd:(M c).f0 - (M a).f0<0:=by omega
    have HL2:Aside0 (∀ y,a+1≤y→y<c+1→(M y).f0<(M a).f0):=⟨fun y h1 h2=>by
     have:=le_le HLE.out h1 (show y≤c by omega) (by have:=HC2.out;omega)
     omega⟩
    clear HL hlc b1 b2
    go_wp2_with fail
    go_roundw
    case rel=>exact⟨c+1,j,by have:=HC2.out;omega,by have:=HC2.out;omega,hj,by go_num,rfl,HA2,HL2,HR,HG2⟩
    case measure=>have:=HC2.out;simp[intOf]<;>omega
   ·have hcd: ¬ ((M c).f0 - (M a).f0<0):=by omega
    have HR2:Aside0 (∀ y,c≤y→y<b→(M a).f0≤(M y).f0):=⟨fun y h1 h2=>by
     have:=le_le HLE.out (show a+1≤c by have:=HC2.out;omega) h1 h2
     omega⟩
    clear HR hlc b1 b2
    go_wp2_with fail
    go_roundw
    case rel=>exact⟨i,c,hi,by have:=HC2.out;omega,by have:=HC2.out;omega,rfl,rfl,HA2,HL,HR2,HG2⟩
    case measure=>have:=HC2.out;simp[intOf]<;>omega
  ·have ij:i=j:=by omega
   subst ij
   go_wp2_with fail
   have HB:Aside0 (Le (rotM M a (a+1) i) a b∧Stab (rotM M a (a+1) i) N):=⟨rot_one_lo HLE.out hi hj HL.out HR.out,rot_stab HST.out (by omega) hi (by omega) (fun x y h1 h2 h3 h4=>by
    have e:x=a:=by omega
    subst e;exact HL.out y h3 h4)⟩
   clear HL HR HLE HST
   obtain⟨wo,rfl⟩: ∃ wo:World,wo=wr:=⟨_,rfl⟩
   go_loopw [13] (fun vk wr=> ∃ k:Nat,a≤k∧k<i∧vk= .int .i64 k∧(∃ K,Aside0 (Arr wr g N K)∧Aside0 (∀ x,K x=rotM M a (a+1) (k+1) x))∧Aside0 (Fr w wr g)) (fun vk _=>i - (intOf vk).toNat)
   case atStart=>exact⟨a,by omega,by omega,rfl,⟨M,HA1,⟨fun x=>(rot_none M (by omega) (by omega) (Or.inr rfl) x).symm⟩⟩,HG⟩
   case round=>
    clear HA1 HG
    obtain⟨k,hk0,hk,rfl,⟨K,HA1,HK⟩,HG⟩:=hrel
    by_cases hlt2:k+1<i
    ·have c0:=HA1.out.cell0 (x:=k+1) (by omega)
     have c1:=HA1.out.cell1 (x:=k+1) (by omega)
     have d0:=HA1.out.cell0 (x:=k) (by omega)
     have d1:=HA1.out.cell1 (x:=k) (by omega)
     have f0:=HA1.out.free
     have HK2:Aside0 (∀ x,upd (upd K k (K (k+1))) (k+1) (K k) x=rotM M a (a+1) (k+1+1) x):=⟨fun x=>by
      rw[sw_put2];have e:K=rotM M a (a+1) (k+1):=funext HK.out;rw[e];exact sw_rot_lo M hk0 x⟩
     obtain⟨s1,hs1⟩: ∃ s,K (k+1)=s:=⟨_,rfl⟩
     obtain⟨s2,hs2⟩: ∃ s,K k=s:=⟨_,rfl⟩
     rw[hs1] at c0 c1 HK2
     rw[hs2] at d0 d1 HK2
     clear HK hs1 hs2
     go_wp2
     go_region
     have HA3:Aside0 (Arr (((((wr.setCell ⟨g,k * 2,none⟩ (.int .i64 s1.f0)).setCell ⟨g,k * 2+1,none⟩ (.bool s1.f1)).setCell ⟨g,(k+1) * 2,none⟩ (.int .i64 s2.f0)).setCell ⟨g,(k+1) * 2+1,none⟩ (.bool s2.f1)).drew) g N (upd (upd K k s1) (k+1) s2)):=
      ⟨((HA1.out.put (by omega) s1).put (by omega) s2).drew⟩
     have HG3:=Aside0.mk (grow_drew (grow_set (grow_set (grow_set (grow_set HG.out (k * 2) (.int .i64 s1.f0)) (k * 2+1) (.bool s1.f1)) ((k+1) * 2) (.int .i64 s2.f0)) ((k+1) * 2+1) (.bool s2.f1)))
     clear c0 c1 d0 d1 f0 HA1 HG
     go_wp2
     go_roundw
     case rel=>exact⟨k+1,by omega,by omega,by go_num,⟨_,HA3,HK2⟩,HG3⟩
     case measure=>simp[intOf]<;>omega
    ·have ek:k+1=i:=by omega
     have HA3:Aside0 (Arr wr g N (rotM M a (a+1) i)):=⟨HA1.out.congr fun x _=>by rw[HK.out,ek]⟩
     clear HA1 HK
     go_wp2
     (try simp only[Exit.inBlock,Exit.then]);refine bodyPost_ret (results_none rfl _ _ _) rfl ?_
     exact⟨rfl,⟨_,HA3.out,mix_wide (rot_mix M (by omega) (by omega)) (Nat.le_refl _) hj,HB.out.2,mix_small (rot_mix M (by omega) hi) (by omega) HSM.out,HB.out.1⟩,HG.out⟩
end Go.Proofs.Ytkcpanpdipmmmaa.H
namespace Go.Proofs.Ytkcpanpdipmmmaa.H
open Go.RowKit Go.Proofs.YtkcpanpdipmmmaaW.PrintWords Go.Proofs.YtkcpanpdipmmmaaW.PrintLast Go.Proofs.YtkcpanpdipmmmaaW.PrintMore Go.Proofs.Ytkcpanpdipmmmaa.P
attribute [local irreducible] wpQuiet
set_option maxHeartbeats 2000000 in
set_option maxRecDepth 100000 in
theorem symHi_calls (g N cap:Nat) (M:Nat→S38) (a m:Nat) (w:World) (h:Arr w g N M) (hN:N≤1000000) (hab:a+1<m) (hb:m+1≤N) (hs:Stab M N) (hsm:Small M N) (hle:Le M a m):
  Calls Try.prog 170 #[.slice (some ⟨g,0,none⟩) N cap, .int .i64 (a:Int), .int .i64 (m:Int), .int .i64 ((m:Int)+1), .func (.func 144) #[] #[]] w fun e w'=>e= .returned (.tuple #[])∧(∃ K,Arr w' g N K∧Sorted M K N a (m+1))∧Fr w w' g:=by
 have HA:=Aside0.mk h
 have HSM:=Aside0.mk hsm
 have HST:=Aside0.mk hs
 have HLE:=Aside0.mk hle
 clear h hs hsm hle
 have e1:(m:Int)+1 - (m:Int)=1:=by omega
 have e2:(((m:Int) - (a:Int)) == 1)=false:=by rw[beq_eq_false_iff_ne];omega
 go_enter Try.func170,Try.ntmps170
 go_wp2_with fail
 go_loopw [14,15] (fun vi vj wr=> ∃ i j:Nat,a≤i∧i≤j∧j≤m∧vi= .int .i64 i∧vj= .int .i64 j∧Aside0 (Arr wr g N M)∧Aside0 (∀ y,a≤y→y<i→(M y).f0≤(M m).f0)∧Aside0 (∀ y,j≤y→y<m→(M m).f0<(M y).f0)∧Aside0 (Fr w wr g)) (fun vi vj _=>(intOf vj).toNat - (intOf vi).toNat)
 case atStart=>exact⟨a,m,Nat.le_refl _,by omega,Nat.le_refl _,rfl,rfl,HA,⟨fun y h1 h2=>by omega⟩,⟨fun y h1 h2=>by omega⟩,⟨grow_refl _ _⟩⟩
 case round=>
  clear HA
  obtain⟨i,j,hi,hij,hj,rfl,rfl,HA1,HL,HR,HG⟩:=hrel
  by_cases hlt:i<j
  ·obtain⟨c,hc⟩: ∃ c,(i+j) / 2=c:=⟨_,rfl⟩
   have hcz:((i:Int)+(j:Int)) / 2=(c:Int):=by omega
   have b1:=HSM.out c (by omega)
   have b2:=HSM.out m (by omega)
   have c0:=HA1.out.q0 (x:=c) (by omega)
   have c1:=HA1.out.q1 (x:=c) (by omega)
   have d0:=HA1.out.q0 (x:=m) (by omega)
   have d1:=HA1.out.q1 (x:=m) (by omega)
   have z1:(c:Int)<(N:Int):=by omega
   have z2:(m:Int)<(N:Int):=by omega
   go_wp2_with fail
   refine wp_region_quiet_below (by kernel_rfl) (by kernel_rfl) ?_;(repeat(quiet_step ((go_at_call 144;exact calls_below_of (cmp_calls (M m) (M c) b2.1 b2.2 b1.1 b1.2 _)))));refine wpQuiet_nil ?_;intro wq hw';obtain⟨⟨wz,hbq⟩,hwq⟩:=hw';subst hwq
   have HA2:Aside0 (Arr wq g N M):=⟨HA1.out.below hbq⟩
   have HG2:Aside0 (Fr w wq g):=⟨grow_trans HG.out (grow_below hbq)⟩
   have HC:=Aside0.mk hc
   clear c0 c1 d0 d1 HA1 HG hbq hcz hc
   have HC2:Aside0 (a≤c∧i≤c∧c<j):=by have:=HC.out;exact⟨by omega,by omega,by omega⟩
   clear HC
   by_cases hlc:(M m).f0<(M c).f0
   ·have hcd:(!decide ((M m).f0 - (M c).f0<0))=false:=by rw[decide_eq_true (by omega)];rfl
    have HR2:Aside0 (∀ y,c≤y→y<m→(M m).f0<(M y).f0):=⟨fun y h1 h2=>by
     have:=le_le HLE.out (show a≤c by have:=HC2.out;omega) h1 h2
     omega⟩
    clear HR hlc b1 b2
    rw[hcd]
    clear hcd
    go_wp2_with fail
    go_roundw
    case rel=>exact⟨i,c,hi,by have:=HC2.out;omega,by have:=HC2.out;omega,rfl,rfl,HA2,HL,HR2,HG2⟩
    case measure=>have:=HC2.out;simp[intOf]<;>omega
   ·have hcd:(!decide ((M m).f0 - (M c).f0<0))=true:=by rw[decide_eq_false (by omega)];rfl
    have HL2:Aside0 (∀ y,a≤y→y<c+1→(M y).f0≤(M m).f0):=⟨fun y h1 h2=>by
     have:=le_le HLE.out h1 (show y≤c by omega) (by have:=HC2.out;omega)
     omega⟩
    clear HL hlc b1 b2
    rw[hcd]
    clear hcd
    go_wp2_with fail
    go_roundw
    case rel=>exact⟨c+1,j,by have:=HC2.out;omega,by have:=HC2.out;omega,hj,by go_num,rfl,HA2,HL2,HR,HG2⟩
    case measure=>have:=HC2.out;simp[intOf]<;>omega
  ·have ij:i=j:=by omega
   subst ij
   go_wp2_with fail
   have HB:Aside0 (Le (rotM M i m (m+1)) a (m+1)∧Stab (rotM M i m (m+1)) N):=⟨rot_one_hi HLE.out hi hj HL.out HR.out,rot_stab HST.out hj (by omega) (by omega) (fun x y h1 h2 h3 h4=>by
    have e:y=m:=by omega
    subst e;exact HR.out x h1 h2)⟩
   clear HL HR HLE HST
   obtain⟨wo,rfl⟩: ∃ wo:World,wo=wr:=⟨_,rfl⟩
   go_loopw [17] (fun vk wr=> ∃ k:Nat,i≤k∧k≤m∧vk= .int .i64 k∧(∃ K,Aside0 (Arr wr g N K)∧Aside0 (∀ x,K x=rotM M k m (m+1) x))∧Aside0 (Fr w wr g)) (fun vk _=>(intOf vk).toNat)
   case atStart=>exact⟨m,by omega,Nat.le_refl _,rfl,⟨M,HA1,⟨fun x=>(rot_none M (Nat.le_refl _) (by omega) (Or.inl rfl) x).symm⟩⟩,HG⟩
   case round=>
    clear HA1 HG
    obtain⟨k1,hk0,hk,rfl,⟨K,HA1,HK⟩,HG⟩:=hrel
    by_cases hlt2:i<k1
    ·obtain⟨k,rfl⟩: ∃ k,k1=k+1:=⟨k1 - 1,by omega⟩
     have c0:=HA1.out.cell0 (x:=k+1) (by omega)
     have c1:=HA1.out.cell1 (x:=k+1) (by omega)
     have d0:=HA1.out.cell0 (x:=k) (by omega)
     have d1:=HA1.out.cell1 (x:=k) (by omega)
     have f0:=HA1.out.free
     have hwp:IntKind.i64.wrap (k:Int)=(k:Int):=by rw[IntKind.wrap_i64];omega
     have jz:(k:Int)+1<(N:Int):=by omega
     have jz1:(k:Int)<(N:Int):=by omega
     have p0:(0:Int)≤(k:Int)+1:=by omega
     have e0:((k:Int)+1).toNat=k+1:=by omega
     have g1:(i:Int)<(k:Int)+1:=by omega
     have HK2:Aside0 (∀ x,upd (upd K (k+1) (K k)) k (K (k+1)) x=rotM M k m (m+1) x):=⟨fun x=>by
      rw[sw_put1];have e:K=rotM M (k+1) m (m+1):=funext HK.out;rw[e];exact sw_rot_hi M (by omega) x⟩
     obtain⟨s1,hs1⟩: ∃ s,K (k+1)=s:=⟨_,rfl⟩
     obtain⟨s2,hs2⟩: ∃ s,K k=s:=⟨_,rfl⟩
     rw[hs1] at c0 c1 HK2
     rw[hs2] at d0 d1 HK2
     clear HK hs1 hs2
     go_wp2
     go_region
     have HA3:Aside0 (Arr (((((wr.setCell ⟨g,(k+1) * 2,none⟩ (.int .i64 s2.f0)).setCell ⟨g,(k+1) * 2+1,none⟩ (.bool s2.f1)).setCell ⟨g,k * 2,none⟩ (.int .i64 s1.f0)).setCell ⟨g,k * 2+1,none⟩ (.bool s1.f1)).drew) g N (upd (upd K (k+1) s2) k s1)):=
      ⟨((HA1.out.put (by omega) s2).put (by omega) s1).drew⟩
     have HG3:=Aside0.mk (grow_drew (grow_set (grow_set (grow_set (grow_set HG.out ((k+1) * 2) (.int .i64 s2.f0)) ((k+1) * 2+1) (.bool s2.f1)) (k * 2) (.int .i64 s1.f0)) (k * 2+1) (.bool s1.f1)))
     clear c0 c1 d0 d1 f0 HA1 HG
     go_wp2
     go_roundw
     case rel=>exact⟨k,by omega,by omega,rfl,⟨_,HA3,HK2⟩,HG3⟩
     case measure=>simp[intOf]<;>omega
    ·have ek:k1=i:=by omega
     have HA3:Aside0 (Arr wr g N (rotM M i m (m+1))):=⟨HA1.out.congr fun x _=>by rw[HK.out,ek]⟩
     clear HA1 HK
     go_wp2
     (try simp only[Exit.inBlock,Exit.then]);refine bodyPost_ret (results_none rfl _ _ _) rfl ?_
     exact⟨rfl,⟨_,HA3.out,mix_wide (rot_mix M hj (by omega)) hi (Nat.le_refl _),HB.out.2,mix_small (rot_mix M hj (by omega)) (by omega) HSM.out,HB.out.1⟩,HG.out⟩
end Go.Proofs.Ytkcpanpdipmmmaa.H
namespace Go.Proofs.Ytkcpanpdipmmmaa.H
open Go.RowKit Go.Proofs.YtkcpanpdipmmmaaW.PrintWords Go.Proofs.YtkcpanpdipmmmaaW.PrintLast Go.Proofs.YtkcpanpdipmmmaaW.PrintMore Go.Proofs.Ytkcpanpdipmmmaa.P
attribute [local irreducible] wpQuiet
def Cross (K:Nat→S38) (a mid b:Nat):Prop:= ∀ x y,a≤x→x<mid→mid≤y→y<b→(K x).f0≤(K y).f0
def F1 (M K:Nat→S38) (N a s mid e b:Nat):Prop:=Mix M K a b∧Stab K N∧Small K N∧Le K a s∧Le K s mid∧Le K mid e∧Le K e b∧Cross K a mid b
def F2 (M K:Nat→S38) (N a mid e b:Nat):Prop:=Mix M K a b∧Stab K N∧Small K N∧Le K a mid∧Le K mid e∧Le K e b∧Cross K a mid b
theorem f1_rot {M:Nat→S38} {N a m b mid s e:Nat} (h1:Le M a m) (h2:Le M m b) (has:a≤s) (hsm:s≤m) (hme:m≤e) (heb:e≤b) (hsum:s+e=mid+m) (hsmid:s≤mid) (hmide:mid≤e)
  (hge:a<s→e<b→(M (s - 1)).f0≤(M e).f0) (hlt:s<m→m<e→(M (e - 1)).f0<(M s).f0) (hst:Stab M N) (hsmall:Small M N) (hb:b≤N):F1 M (rotM M s m e) N a s mid e b:=by
 obtain⟨p1,p2,p3,p4,p5,p6⟩:=sym_rot h1 h2 has hsm hme heb hsum hsmid hmide hge hlt hst hb
 have hx:=mix_wide (rot_mix M hsm hme) has heb
 exact⟨hx,p1,mix_small hx hb hsmall,p2,p3,p4,p5,p6⟩
theorem f2_rec {M K L:Nat→S38} {N a s mid e b:Nat} (h:F1 M K N a s mid e b) (hl:Sorted K L N a mid) (hm:mid≤e) (he:e≤b):F2 M L N a mid e b:=by
 obtain⟨h1,h2,h3,h4,h5,h6,h7,h8⟩:=h
 obtain⟨l1,l2,l3,l4⟩:=hl
 exact⟨mix_trans h1 (mix_wide l1 (Nat.le_refl _) (by omega)),l2,l3,l4,mix_le l1 (Or.inr (Nat.le_refl _)) h6,mix_le l1 (Or.inr hm) h7,mix_cross h8 (Or.inl l1)⟩
theorem f2_no {M K:Nat→S38} {N a s mid e b:Nat} (h:F1 M K N a s mid e b) (hs:s=a∨s=mid):F2 M K N a mid e b:=by
 obtain⟨h1,h2,h3,h4,h5,h6,h7,h8⟩:=h
 refine⟨h1,h2,h3,?_,h6,h7,h8⟩
 rcases hs with hs|hs
 ·subst hs;exact h5
 ·subst hs;exact h4
theorem f3_rec {M K L:Nat→S38} {N a mid e b:Nat} (h:F2 M K N a mid e b) (hl:Sorted K L N mid b) (ha:a≤mid):Sorted M L N a b:=by
 obtain⟨h1,h2,h3,h4,h6,h7,h8⟩:=h
 obtain⟨l1,l2,l3,l4⟩:=hl
 exact⟨mix_trans h1 (mix_wide l1 ha (Nat.le_refl _)),l2,l3,le_join (mix_le l1 (Or.inl (Nat.le_refl _)) h4) l4 (mix_cross h8 (Or.inr l1))⟩
theorem f3_no {M K:Nat→S38} {N a mid e b:Nat} (h:F2 M K N a mid e b) (hs:e=mid∨e=b):Sorted M K N a b:=by
 obtain⟨h1,h2,h3,h4,h6,h7,h8⟩:=h
 refine⟨h1,h2,h3,le_join h4 ?_ h8⟩
 rcases hs with hs|hs
 ·subst hs;exact h7
 ·subst hs;exact h6
structure Mid (a m b mid s0 r0 p:Nat):Prop where
 lo:2 * mid≤a+b
 hi:a+b<2 * mid+2
 am:a+2≤m
 mb:m+2≤b
 s0a:a≤s0
 r0m:r0≤m
 r0mid:r0≤mid
 s0b:mid+m≤s0+b
 sr:s0≤r0
 p:p+1=mid+m
 s0e:s0=a∨s0+b=mid+m
 r0e:r0=mid∨r0=m
theorem mid_f1 {M:Nat→S38} {N a m b mid s0 r0 p s e:Nat} (H:Mid a m b mid s0 r0 p) (h0:s0≤s) (h1:s≤r0) (hse:s+e=mid+m) (hL: ∀ c,s0≤c→c<s→(M c).f0≤(M (p - c)).f0) (hR: ∀ c,s≤c→c<r0→(M (p - c)).f0<(M c).f0)
  (l1:Le M a m) (l2:Le M m b) (hst:Stab M N) (hsm:Small M N) (hb:b≤N):F1 M (rotM M s m e) N a s mid e b:=by
 obtain⟨q1,q2,q3,q4,q5,q6,q7,q8,q9,q10,q11,q12⟩:=H
 refine f1_rot l1 l2 (by omega) (by omega) (by omega) (by omega) hse (by omega) (by omega) (fun k1 k2=> ?_) (fun k1 k2=> ?_) hst hsm hb
 ·have:=hL (s - 1) (by omega) (by omega)
  rwa [show p - (s - 1)=e by omega] at this
 ·have:=hR s (Nat.le_refl _) (by omega)
  rwa [show p - s=e - 1 by omega] at this
theorem mid_left {M:Nat→S38} {a m b mid s0 r0 p c:Nat} (H:Mid a m b mid s0 r0 p) (h0:s0≤c) (h1:c<r0) (l1:Le M a m) (l2:Le M m b) (h:(M c).f0≤(M (p - c)).f0): ∀ x,s0≤x→x<c+1→(M x).f0≤(M (p - x)).f0:=by
 obtain⟨q1,q2,q3,q4,q5,q6,q7,q8,q9,q10,q11,q12⟩:=H
 intro x k1 k2
 have k3:(M x).f0≤(M c).f0:=le_le l1 (by omega) (by omega) (by omega)
 have k4:(M (p - c)).f0≤(M (p - x)).f0:=le_le l2 (by omega) (by omega) (by omega)
 omega
theorem mid_right {M:Nat→S38} {a m b mid s0 r0 p c:Nat} (H:Mid a m b mid s0 r0 p) (h0:s0≤c) (h1:c<r0) (l1:Le M a m) (l2:Le M m b) (h:(M (p - c)).f0<(M c).f0): ∀ x,c≤x→x<r0→(M (p - x)).f0<(M x).f0:=by
 obtain⟨q1,q2,q3,q4,q5,q6,q7,q8,q9,q10,q11,q12⟩:=H
 intro x k1 k2
 have k3:(M c).f0≤(M x).f0:=le_le l1 (by omega) (by omega) (by omega)
 have k4:(M (p - x)).f0≤(M (p - c)).f0:=le_le l2 (by omega) (by omega) (by omega)
 omega
theorem mid_two {a m b mid p:Nat} (h1:(a+b) / 2=mid) (h2:a+2≤m) (h3:m+2≤b) (h4:p+1=mid+m):
  ∃ s0 r0:Nat,Aside0 (Mid a m b mid s0 r0 p)∧((mid<m∧s0+b=mid+m∧r0=mid)∨(¬ mid<m∧s0=a∧r0=m)):=by
 by_cases h:mid<m
 ·exact⟨mid+m - b,mid,⟨by omega,by omega,h2,h3,by omega,by omega,by omega,by omega,by omega,h4,Or.inr (by omega),Or.inl rfl⟩,Or.inl ⟨h,by omega,rfl⟩⟩
 ·exact⟨a,m,⟨by omega,by omega,h2,h3,by omega,by omega,by omega,by omega,by omega,h4,Or.inl rfl,Or.inr rfl⟩,Or.inr ⟨h,rfl,rfl⟩⟩
def SymOk (g N cap:Nat) (d:Nat):Prop:= ∀ (M:Nat→S38) (a m b:Nat) (w:World),b≤a+d→Arr w g N M→a<m→m<b→b≤N→Stab M N→Small M N→Le M a m→Le M m b→
  Calls Try.prog 170 #[.slice (some ⟨g,0,none⟩) N cap, .int .i64 (a:Int), .int .i64 (m:Int), .int .i64 (b:Int), .func (.func 144) #[] #[]] w fun e w'=>e= .returned (.tuple #[])∧(∃ K,Arr w' g N K∧Sorted M K N a b)∧Fr w w' g
set_option maxHeartbeats 4000000 in
set_option maxRecDepth 100000 in
theorem symMid_calls (g N cap d:Nat) (ih:SymOk g N cap d) (M:Nat→S38) (a m b:Nat) (w:World) (hd:b≤a+d+1) (h:Arr w g N M) (hN:N≤1000000) (ham:a+2≤m) (hmb:m+2≤b) (hb:b≤N) (hs:Stab M N) (hsm:Small M N) (hl1:Le M a m) (hl2:Le M m b):
  Calls Try.prog 170 #[.slice (some ⟨g,0,none⟩) N cap, .int .i64 (a:Int), .int .i64 (m:Int), .int .i64 (b:Int), .func (.func 144) #[] #[]] w fun e w'=>e= .returned (.tuple #[])∧(∃ K,Arr w' g N K∧Sorted M K N a b)∧Fr w w' g:=by
 obtain⟨mid,hmid⟩: ∃ mid,(a+b) / 2=mid:=⟨_,rfl⟩
 obtain⟨p,hp⟩: ∃ p,p+1=mid+m:=⟨mid+m - 1,by omega⟩
 obtain⟨s0,r0,HM,hor⟩:=mid_two hmid ham hmb hp
 have HA:=Aside0.mk h
 have HSM:=Aside0.mk hsm
 have HST:=Aside0.mk hs
 have HL1:=Aside0.mk hl1
 have HL2:=Aside0.mk hl2
 have IH:=Aside0.mk ih
 clear h hs hsm hl1 hl2 ih
 have hmz:((a:Int)+(b:Int)) / 2=(mid:Int):=by omega
 have hpz:(mid:Int)+(m:Int) - 1=(p:Int):=by omega
 have e1:(((b:Int) - (m:Int)) == 1)=false:=by rw[beq_eq_false_iff_ne];omega
 have e2:(((m:Int) - (a:Int)) == 1)=false:=by rw[beq_eq_false_iff_ne];omega
 have bp:p<2000000:=by omega
 have bmid:mid≤1000000:=by omega
 clear hmid
 go_enter Try.func170,Try.ntmps170
 rcases hor with ⟨hc,hs0,hr0⟩|⟨hc,hs0,hr0⟩
 ·have hcb:decide ((mid:Int)<(m:Int))=true:=decide_eq_true (by omega)
  have hsz:(mid:Int)+(m:Int) - (b:Int)=(s0:Int):=by omega
  go_wp2_with fail
  go_loopw [20,21] (fun vs vr wr=> ∃ s r:Nat,s0≤s∧s≤r∧r≤r0∧vs= .int .i64 s∧vr= .int .i64 r∧Aside0 (Arr wr g N M)∧Aside0 (∀ c,s0≤c→c<s→(M c).f0≤(M (p - c)).f0)∧Aside0 (∀ c,r≤c→c<r0→(M (p - c)).f0<(M c).f0)∧Aside0 (Fr w wr g)) (fun vs vr _=>(intOf vr).toNat - (intOf vs).toNat)
  case atStart=>exact⟨s0,r0,Nat.le_refl _,HM.out.sr,Nat.le_refl _,by first|rfl|rw[hs0],by rw[hr0],HA,⟨fun y h1 h2=>by omega⟩,⟨fun y h1 h2=>by omega⟩,⟨grow_refl _ _⟩⟩
  case round=>
   clear HA
   obtain⟨s,r,hsr0,hsr,hrr,rfl,rfl,HA1,HL,HR,HG⟩:=hrel
   by_cases hlt:s<r
   ·obtain⟨c,hcq⟩: ∃ c,(s+r) / 2=c:=⟨_,rfl⟩
    have hcz:((s:Int)+(r:Int)) / 2=(c:Int):=by omega
    have HB:Aside0 (s≤c∧c<r∧s0≤c∧c<r0∧c<N∧p - c<N∧c≤p):=by
     obtain⟨q1,q2,q3,q4,q5,q6,q7,q8,q9,q10,q11,q12⟩:=HM.out
     exact⟨by omega,by omega,by omega,by omega,by omega,by omega,by omega⟩
    have bc:c<N:=HB.out.2.2.2.2.1
    obtain⟨q,hq⟩: ∃ q,p - c=q:=⟨_,rfl⟩
    have hqz:(p:Int) - (c:Int)=(q:Int):=by have:=HB.out;omega
    have hwp:IntKind.i64.wrap (q:Int)=(q:Int):=by have:=HB.out;rw[IntKind.wrap_i64];omega
    have b1:=HSM.out c HB.out.2.2.2.2.1
    have b2:=HSM.out q (by have:=HB.out;omega)
    have c0:=HA1.out.q0 (x:=c) HB.out.2.2.2.2.1
    have c1:=HA1.out.q1 (x:=c) HB.out.2.2.2.2.1
    have d0:=HA1.out.q0 (x:=q) (by have:=HB.out;omega)
    have d1:=HA1.out.q1 (x:=q) (by have:=HB.out;omega)
    have z1:(c:Int)<(N:Int):=by have:=HB.out;omega
    have z2:(q:Int)<(N:Int):=by have:=HB.out;omega
    have HQ:=Aside0.mk hq
    clear hcq hq
    go_wp2_with fail
    refine wp_region_quiet_below (by kernel_rfl) (by kernel_rfl) ?_;(repeat(quiet_step ((go_at_call 144;exact calls_below_of (cmp_calls (M q) (M c) b2.1 b2.2 b1.1 b1.2 _)))));refine wpQuiet_nil ?_;intro wq hw';obtain⟨⟨wz,hbq⟩,hwq⟩:=hw';subst hwq
    have HA2:Aside0 (Arr wq g N M):=⟨HA1.out.below hbq⟩
    have HG2:Aside0 (Fr w wq g):=⟨grow_trans HG.out (grow_below hbq)⟩
    clear c0 c1 d0 d1 HA1 HG hbq hcz z1 z2 hqz
    by_cases hlc:(M q).f0<(M c).f0
    ·have hcd:(!decide ((M q).f0 - (M c).f0<0))=false:=by rw[decide_eq_true (by omega)];rfl
     have HR2:Aside0 (∀ y,c≤y→y<r0→(M (p - y)).f0<(M y).f0):=⟨mid_right HM.out HB.out.2.2.1 HB.out.2.2.2.1 HL1.out HL2.out (by rw[HQ.out];exact hlc)⟩
     clear HR hlc b1 b2
     rw[hcd]
     clear hcd
     go_wp2_with fail
     go_roundw
     case rel=>exact⟨s,c,hsr0,HB.out.1,by have:=HB.out;omega,rfl,rfl,HA2,HL,HR2,HG2⟩
     case measure=>have:=HB.out;simp[intOf]<;>omega
    ·have hcd:(!decide ((M q).f0 - (M c).f0<0))=true:=by rw[decide_eq_false (by omega)];rfl
     have HL2':Aside0 (∀ y,s0≤y→y<c+1→(M y).f0≤(M (p - y)).f0):=⟨mid_left HM.out HB.out.2.2.1 HB.out.2.2.2.1 HL1.out HL2.out (by rw[HQ.out];omega)⟩
     clear HL hlc b1 b2
     rw[hcd]
     clear hcd
     go_wp2_with fail
     go_roundw
     case rel=>exact⟨c+1,r,by have:=HB.out;omega,by have:=HB.out;omega,hrr,by go_num,rfl,HA2,HL2',HR,HG2⟩
     case measure=>have:=HB.out;simp[intOf]<;>omega
   ·have er:s=r:=by omega
    subst er
    obtain⟨e,he⟩: ∃ e,s+e=mid+m:=⟨mid+m - s,by have:=HM.out.r0m;omega⟩
    have hez:(mid:Int)+(m:Int) - (s:Int)=(e:Int):=by omega
    have HF:Aside0 (F1 M (rotM M s m e) N a s mid e b):=⟨mid_f1 HM.out hsr0 hrr he HL.out HR.out HL1.out HL2.out HST.out HSM.out hb⟩
    have b1:a≤s:=by have:=HM.out.s0a;omega
    have b2:s≤mid:=by have:=HM.out.r0mid;omega
    have b3:s≤m:=by have:=HM.out.r0m;omega
    have b4:m≤e:=by omega
    have b5:mid≤e:=by omega
    have b6:e≤b:=by have:=HM.out.s0b;omega
    have b7:a+2≤mid+1:=by have:=HM.out.hi;omega
    have b8:mid+2≤b:=by have:=HM.out.lo;omega
    clear HL HR HL1 HL2 HST HSM hlt he hsr hsr0 hrr
    by_cases c1:s<m
    ·have hb1:decide ((s:Int)<(m:Int))=true:=decide_eq_true (by omega)
     by_cases c2:m<e
     ·have hb2:decide ((m:Int)<(e:Int))=true:=decide_eq_true (by omega)
      go_wp2_with fail
      refine(rotate_calls g N cap M s m e _ _ HA1.out hN c1 c2 (by omega)).mono ?_
      rintro e3 w3 ⟨rfl,ha3,hg3⟩
      have HA3:=Aside0.mk ha3
      have HG3:Aside0 (Fr w w3 g):=⟨grow_trans HG.out hg3⟩
      clear ha3 hg3 HA1 HG
      obtain⟨K,hK⟩: ∃ K,K=rotM M s m e:=⟨_,rfl⟩
      rw[← hK] at HA3 HF
      clear hK
      by_cases c3:a<s
      ·have hb3:decide ((a:Int)<(s:Int))=true:=decide_eq_true (by omega)
       by_cases c4:s<mid
       ·have hb4:decide ((s:Int)<(mid:Int))=true:=decide_eq_true (by omega)
        go_wp2_with fail
        refine(IH.out K a s mid _ (by omega) HA3.out c3 c4 (by omega) HF.out.2.1 HF.out.2.2.1 HF.out.2.2.2.1 HF.out.2.2.2.2.1).mono ?_
        rintro e4 w4 ⟨rfl,⟨K2,ha4,hk4⟩,hg4⟩
        have HA4:=Aside0.mk ha4
        have HF2:Aside0 (F2 M K2 N a mid e b):=⟨f2_rec HF.out hk4 b5 b6⟩
        have HG4:Aside0 (Fr w w4 g):=⟨grow_trans HG3.out hg4⟩
        clear ha4 hk4 hg4 HA3 HF HG3
        by_cases c5:mid<e
        ·have hb5:decide ((mid:Int)<(e:Int))=true:=decide_eq_true (by omega)
         by_cases c6:e<b
         ·have hb6:decide ((e:Int)<(b:Int))=true:=decide_eq_true (by omega)
          go_wp2_with fail
          refine(IH.out K2 mid e b _ (by omega) HA4.out c5 c6 hb HF2.out.2.1 HF2.out.2.2.1 HF2.out.2.2.2.2.1 HF2.out.2.2.2.2.2.1).mono ?_
          rintro e5 w5 ⟨rfl,⟨K3,ha5,hk5⟩,hg5⟩
          have HA5:=Aside0.mk ha5
          have HS5:Aside0 (Sorted M K3 N a b):=⟨f3_rec HF2.out hk5 (by omega)⟩
          have HG5:Aside0 (Fr w w5 g):=⟨grow_trans HG4.out hg5⟩
          clear ha5 hk5 hg5 HA4 HF2 HG4
          go_wp2_with fail
          go_end0
          exact⟨rfl,⟨K3,HA5.out,HS5.out⟩,HG5.out⟩
         ·have hb6:decide ((e:Int)<(b:Int))=false:=decide_eq_false (by omega)
          have HS5:Aside0 (Sorted M K2 N a b):=⟨f3_no HF2.out (Or.inr (by omega))⟩
          clear HF2
          go_wp2_with fail
          go_end0
          exact⟨rfl,⟨K2,HA4.out,HS5.out⟩,HG4.out⟩
        ·have hb5:decide ((mid:Int)<(e:Int))=false:=decide_eq_false (by omega)
         have HS5:Aside0 (Sorted M K2 N a b):=⟨f3_no HF2.out (Or.inl (by omega))⟩
         clear HF2
         go_wp2_with fail
         go_end0
         exact⟨rfl,⟨K2,HA4.out,HS5.out⟩,HG4.out⟩
       ·have hb4:decide ((s:Int)<(mid:Int))=false:=decide_eq_false (by omega)
        have HF2:Aside0 (F2 M K N a mid e b):=⟨f2_no HF.out (Or.inr (by omega))⟩
        have HA4:=HA3
        have HG4:=HG3
        obtain⟨K2,rfl⟩: ∃ K2,K2=K:=⟨K,rfl⟩
        clear HF HA3 HG3
        by_cases c5:mid<e
        ·have hb5:decide ((mid:Int)<(e:Int))=true:=decide_eq_true (by omega)
         by_cases c6:e<b
         ·have hb6:decide ((e:Int)<(b:Int))=true:=decide_eq_true (by omega)
          go_wp2_with fail
          refine(IH.out K2 mid e b _ (by omega) HA4.out c5 c6 hb HF2.out.2.1 HF2.out.2.2.1 HF2.out.2.2.2.2.1 HF2.out.2.2.2.2.2.1).mono ?_
          rintro e5 w5 ⟨rfl,⟨K3,ha5,hk5⟩,hg5⟩
          have HA5:=Aside0.mk ha5
          have HS5:Aside0 (Sorted M K3 N a b):=⟨f3_rec HF2.out hk5 (by omega)⟩
          have HG5:Aside0 (Fr w w5 g):=⟨grow_trans HG4.out hg5⟩
          clear ha5 hk5 hg5 HA4 HF2 HG4
          go_wp2_with fail
          go_end0
          exact⟨rfl,⟨K3,HA5.out,HS5.out⟩,HG5.out⟩
         ·have hb6:decide ((e:Int)<(b:Int))=false:=decide_eq_false (by omega)
          have HS5:Aside0 (Sorted M K2 N a b):=⟨f3_no HF2.out (Or.inr (by omega))⟩
          clear HF2
          go_wp2_with fail
          go_end0
          exact⟨rfl,⟨K2,HA4.out,HS5.out⟩,HG4.out⟩
        ·have hb5:decide ((mid:Int)<(e:Int))=false:=decide_eq_false (by omega)
         have HS5:Aside0 (Sorted M K2 N a b):=⟨f3_no HF2.out (Or.inl (by omega))⟩
         clear HF2
         go_wp2_with fail
         go_end0
         exact⟨rfl,⟨K2,HA4.out,HS5.out⟩,HG4.out⟩
      ·have hb3:decide ((a:Int)<(s:Int))=false:=decide_eq_false (by omega)
       have HF2:Aside0 (F2 M K N a mid e b):=⟨f2_no HF.out (Or.inl (by omega))⟩
       have HA4:=HA3
       have HG4:=HG3
       obtain⟨K2,rfl⟩: ∃ K2,K2=K:=⟨K,rfl⟩
       clear HF HA3 HG3
       by_cases c5:mid<e
       ·have hb5:decide ((mid:Int)<(e:Int))=true:=decide_eq_true (by omega)
        by_cases c6:e<b
        ·have hb6:decide ((e:Int)<(b:Int))=true:=decide_eq_true (by omega)
         go_wp2_with fail
         refine(IH.out K2 mid e b _ (by omega) HA4.out c5 c6 hb HF2.out.2.1 HF2.out.2.2.1 HF2.out.2.2.2.2.1 HF2.out.2.2.2.2.2.1).mono ?_
         rintro e5 w5 ⟨rfl,⟨K3,ha5,hk5⟩,hg5⟩
         have HA5:=Aside0.mk ha5
         have HS5:Aside0 (Sorted M K3 N a b):=⟨f3_rec HF2.out hk5 (by omega)⟩
         have HG5:Aside0 (Fr w w5 g):=⟨grow_trans HG4.out hg5⟩
         clear ha5 hk5 hg5 HA4 HF2 HG4
         go_wp2_with fail
         go_end0
         exact⟨rfl,⟨K3,HA5.out,HS5.out⟩,HG5.out⟩
        ·have hb6:decide ((e:Int)<(b:Int))=false:=decide_eq_false (by omega)
         have HS5:Aside0 (Sorted M K2 N a b):=⟨f3_no HF2.out (Or.inr (by omega))⟩
         clear HF2
         go_wp2_with fail
         go_end0
         exact⟨rfl,⟨K2,HA4.out,HS5.out⟩,HG4.out⟩
       ·have hb5:decide ((mid:Int)<(e:Int))=false:=decide_eq_false (by omega)
        have HS5:Aside0 (Sorted M K2 N a b):=⟨f3_no HF2.out (Or.inl (by omega))⟩
        clear HF2
        go_wp2_with fail
        go_end0
        exact⟨rfl,⟨K2,HA4.out,HS5.out⟩,HG4.out⟩
     ·have hb2:decide ((m:Int)<(e:Int))=false:=decide_eq_false (by omega)
      have HA3:Aside0 (Arr wr g N (rotM M s m e)):=⟨HA1.out.congr fun x _=>rot_none M (by omega) (by omega) (Or.inr (by omega)) x⟩
      have HG3:=HG
      clear HA1 HG
      obtain⟨K,hK⟩: ∃ K,K=rotM M s m e:=⟨_,rfl⟩
      rw[← hK] at HA3 HF
      clear hK
      by_cases c3:a<s
      ·have hb3:decide ((a:Int)<(s:Int))=true:=decide_eq_true (by omega)
       by_cases c4:s<mid
       ·have hb4:decide ((s:Int)<(mid:Int))=true:=decide_eq_true (by omega)
        go_wp2_with fail
        refine(IH.out K a s mid _ (by omega) HA3.out c3 c4 (by omega) HF.out.2.1 HF.out.2.2.1 HF.out.2.2.2.1 HF.out.2.2.2.2.1).mono ?_
        rintro e4 w4 ⟨rfl,⟨K2,ha4,hk4⟩,hg4⟩
        have HA4:=Aside0.mk ha4
        have HF2:Aside0 (F2 M K2 N a mid e b):=⟨f2_rec HF.out hk4 b5 b6⟩
        have HG4:Aside0 (Fr w w4 g):=⟨grow_trans HG3.out hg4⟩
        clear ha4 hk4 hg4 HA3 HF HG3
        by_cases c5:mid<e
        ·have hb5:decide ((mid:Int)<(e:Int))=true:=decide_eq_true (by omega)
         by_cases c6:e<b
         ·have hb6:decide ((e:Int)<(b:Int))=true:=decide_eq_true (by omega)
          go_wp2_with fail
          refine(IH.out K2 mid e b _ (by omega) HA4.out c5 c6 hb HF2.out.2.1 HF2.out.2.2.1 HF2.out.2.2.2.2.1 HF2.out.2.2.2.2.2.1).mono ?_
          rintro e5 w5 ⟨rfl,⟨K3,ha5,hk5⟩,hg5⟩
          have HA5:=Aside0.mk ha5
          have HS5:Aside0 (Sorted M K3 N a b):=⟨f3_rec HF2.out hk5 (by omega)⟩
          have HG5:Aside0 (Fr w w5 g):=⟨grow_trans HG4.out hg5⟩
          clear ha5 hk5 hg5 HA4 HF2 HG4
          go_wp2_with fail
          go_end0
          exact⟨rfl,⟨K3,HA5.out,HS5.out⟩,HG5.out⟩
         ·have hb6:decide ((e:Int)<(b:Int))=false:=decide_eq_false (by omega)
          have HS5:Aside0 (Sorted M K2 N a b):=⟨f3_no HF2.out (Or.inr (by omega))⟩
          clear HF2
          go_wp2_with fail
          go_end0
          exact⟨rfl,⟨K2,HA4.out,HS5.out⟩,HG4.out⟩
        ·have hb5:decide ((mid:Int)<(e:Int))=false:=decide_eq_false (by omega)
         have HS5:Aside0 (Sorted M K2 N a b):=⟨f3_no HF2.out (Or.inl (by omega))⟩
         clear HF2
         go_wp2_with fail
         go_end0
         exact⟨rfl,⟨K2,HA4.out,HS5.out⟩,HG4.out⟩
       ·have hb4:decide ((s:Int)<(mid:Int))=false:=decide_eq_false (by omega)
        have HF2:Aside0 (F2 M K N a mid e b):=⟨f2_no HF.out (Or.inr (by omega))⟩
        have HA4:=HA3
        have HG4:=HG3
        obtain⟨K2,rfl⟩: ∃ K2,K2=K:=⟨K,rfl⟩
        clear HF HA3 HG3
        by_cases c5:mid<e
        ·have hb5:decide ((mid:Int)<(e:Int))=true:=decide_eq_true (by omega)
         by_cases c6:e<b
         ·have hb6:decide ((e:Int)<(b:Int))=true:=decide_eq_true (by omega)
          go_wp2_with fail
          refine(IH.out K2 mid e b _ (by omega) HA4.out c5 c6 hb HF2.out.2.1 HF2.out.2.2.1 HF2.out.2.2.2.2.1 HF2.out.2.2.2.2.2.1).mono ?_
          rintro e5 w5 ⟨rfl,⟨K3,ha5,hk5⟩,hg5⟩
          have HA5:=Aside0.mk ha5
          have HS5:Aside0 (Sorted M K3 N a b):=⟨f3_rec HF2.out hk5 (by omega)⟩
          have HG5:Aside0 (Fr w w5 g):=⟨grow_trans HG4.out hg5⟩
          clear ha5 hk5 hg5 HA4 HF2 HG4
          go_wp2_with fail
          go_end0
          exact⟨rfl,⟨K3,HA5.out,HS5.out⟩,HG5.out⟩
         ·have hb6:decide ((e:Int)<(b:Int))=false:=decide_eq_false (by omega)
          have HS5:Aside0 (Sorted M K2 N a b):=⟨f3_no HF2.out (Or.inr (by omega))⟩
          clear HF2
          go_wp2_with fail
          go_end0
          exact⟨rfl,⟨K2,HA4.out,HS5.out⟩,HG4.out⟩
        ·have hb5:decide ((mid:Int)<(e:Int))=false:=decide_eq_false (by omega)
         have HS5:Aside0 (Sorted M K2 N a b):=⟨f3_no HF2.out (Or.inl (by omega))⟩
         clear HF2
         go_wp2_with fail
         go_end0
         exact⟨rfl,⟨K2,HA4.out,HS5.out⟩,HG4.out⟩
      ·have hb3:decide ((a:Int)<(s:Int))=false:=decide_eq_false (by omega)
       have HF2:Aside0 (F2 M K N a mid e b):=⟨f2_no HF.out (Or.inl (by omega))⟩
       have HA4:=HA3
       have HG4:=HG3
       obtain⟨K2,rfl⟩: ∃ K2,K2=K:=⟨K,rfl⟩
       clear HF HA3 HG3
       by_cases c5:mid<e
       ·have hb5:decide ((mid:Int)<(e:Int))=true:=decide_eq_true (by omega)
        by_cases c6:e<b
        ·have hb6:decide ((e:Int)<(b:Int))=true:=decide_eq_true (by omega)
         go_wp2_with fail
         refine(IH.out K2 mid e b _ (by omega) HA4.out c5 c6 hb HF2.out.2.1 HF2.out.2.2.1 HF2.out.2.2.2.2.1 HF2.out.2.2.2.2.2.1).mono ?_
         rintro e5 w5 ⟨rfl,⟨K3,ha5,hk5⟩,hg5⟩
         have HA5:=Aside0.mk ha5
         have HS5:Aside0 (Sorted M K3 N a b):=⟨f3_rec HF2.out hk5 (by omega)⟩
         have HG5:Aside0 (Fr w w5 g):=⟨grow_trans HG4.out hg5⟩
         clear ha5 hk5 hg5 HA4 HF2 HG4
         go_wp2_with fail
         go_end0
         exact⟨rfl,⟨K3,HA5.out,HS5.out⟩,HG5.out⟩
        ·have hb6:decide ((e:Int)<(b:Int))=false:=decide_eq_false (by omega)
         have HS5:Aside0 (Sorted M K2 N a b):=⟨f3_no HF2.out (Or.inr (by omega))⟩
         clear HF2
         go_wp2_with fail
         go_end0
         exact⟨rfl,⟨K2,HA4.out,HS5.out⟩,HG4.out⟩
       ·have hb5:decide ((mid:Int)<(e:Int))=false:=decide_eq_false (by omega)
        have HS5:Aside0 (Sorted M K2 N a b):=⟨f3_no HF2.out (Or.inl (by omega))⟩
        clear HF2
        go_wp2_with fail
        go_end0
        exact⟨rfl,⟨K2,HA4.out,HS5.out⟩,HG4.out⟩
    ·have hb1:decide ((s:Int)<(m:Int))=false:=decide_eq_false (by omega)
     have HA3:Aside0 (Arr wr g N (rotM M s m e)):=⟨HA1.out.congr fun x _=>rot_none M (by omega) (by omega) (Or.inl (by omega)) x⟩
     have HG3:=HG
     clear HA1 HG
     obtain⟨K,hK⟩: ∃ K,K=rotM M s m e:=⟨_,rfl⟩
     rw[← hK] at HA3 HF
     clear hK
     by_cases c3:a<s
     ·have hb3:decide ((a:Int)<(s:Int))=true:=decide_eq_true (by omega)
      by_cases c4:s<mid
      ·have hb4:decide ((s:Int)<(mid:Int))=true:=decide_eq_true (by omega)
       go_wp2_with fail
       refine(IH.out K a s mid _ (by omega) HA3.out c3 c4 (by omega) HF.out.2.1 HF.out.2.2.1 HF.out.2.2.2.1 HF.out.2.2.2.2.1).mono ?_
       rintro e4 w4 ⟨rfl,⟨K2,ha4,hk4⟩,hg4⟩
       have HA4:=Aside0.mk ha4
       have HF2:Aside0 (F2 M K2 N a mid e b):=⟨f2_rec HF.out hk4 b5 b6⟩
       have HG4:Aside0 (Fr w w4 g):=⟨grow_trans HG3.out hg4⟩
       clear ha4 hk4 hg4 HA3 HF HG3
       by_cases c5:mid<e
       ·have hb5:decide ((mid:Int)<(e:Int))=true:=decide_eq_true (by omega)
        by_cases c6:e<b
        ·have hb6:decide ((e:Int)<(b:Int))=true:=decide_eq_true (by omega)
         go_wp2_with fail
         refine(IH.out K2 mid e b _ (by omega) HA4.out c5 c6 hb HF2.out.2.1 HF2.out.2.2.1 HF2.out.2.2.2.2.1 HF2.out.2.2.2.2.2.1).mono ?_
         rintro e5 w5 ⟨rfl,⟨K3,ha5,hk5⟩,hg5⟩
         have HA5:=Aside0.mk ha5
         have HS5:Aside0 (Sorted M K3 N a b):=⟨f3_rec HF2.out hk5 (by omega)⟩
         have HG5:Aside0 (Fr w w5 g):=⟨grow_trans HG4.out hg5⟩
         clear ha5 hk5 hg5 HA4 HF2 HG4
         go_wp2_with fail
         go_end0
         exact⟨rfl,⟨K3,HA5.out,HS5.out⟩,HG5.out⟩
        ·have hb6:decide ((e:Int)<(b:Int))=false:=decide_eq_false (by omega)
         have HS5:Aside0 (Sorted M K2 N a b):=⟨f3_no HF2.out (Or.inr (by omega))⟩
         clear HF2
         go_wp2_with fail
         go_end0
         exact⟨rfl,⟨K2,HA4.out,HS5.out⟩,HG4.out⟩
       ·have hb5:decide ((mid:Int)<(e:Int))=false:=decide_eq_false (by omega)
        have HS5:Aside0 (Sorted M K2 N a b):=⟨f3_no HF2.out (Or.inl (by omega))⟩
        clear HF2
        go_wp2_with fail
        go_end0
        exact⟨rfl,⟨K2,HA4.out,HS5.out⟩,HG4.out⟩
      ·have hb4:decide ((s:Int)<(mid:Int))=false:=decide_eq_false (by omega)
       have HF2:Aside0 (F2 M K N a mid e b):=⟨f2_no HF.out (Or.inr (by omega))⟩
       have HA4:=HA3
       have HG4:=HG3
       obtain⟨K2,rfl⟩: ∃ K2,K2=K:=⟨K,rfl⟩
       clear HF HA3 HG3
       by_cases c5:mid<e
       ·have hb5:decide ((mid:Int)<(e:Int))=true:=decide_eq_true (by omega)
        by_cases c6:e<b
        ·have hb6:decide ((e:Int)<(b:Int))=true:=decide_eq_true (by omega)
         go_wp2_with fail
         refine(IH.out K2 mid e b _ (by omega) HA4.out c5 c6 hb HF2.out.2.1 HF2.out.2.2.1 HF2.out.2.2.2.2.1 HF2.out.2.2.2.2.2.1).mono ?_
         rintro e5 w5 ⟨rfl,⟨K3,ha5,hk5⟩,hg5⟩
         have HA5:=Aside0.mk ha5
         have HS5:Aside0 (Sorted M K3 N a b):=⟨f3_rec HF2.out hk5 (by omega)⟩
         have HG5:Aside0 (Fr w w5 g):=⟨grow_trans HG4.out hg5⟩
         clear ha5 hk5 hg5 HA4 HF2 HG4
         go_wp2_with fail
         go_end0
         exact⟨rfl,⟨K3,HA5.out,HS5.out⟩,HG5.out⟩
        ·have hb6:decide ((e:Int)<(b:Int))=false:=decide_eq_false (by omega)
         have HS5:Aside0 (Sorted M K2 N a b):=⟨f3_no HF2.out (Or.inr (by omega))⟩
         clear HF2
         go_wp2_with fail
         go_end0
         exact⟨rfl,⟨K2,HA4.out,HS5.out⟩,HG4.out⟩
       ·have hb5:decide ((mid:Int)<(e:Int))=false:=decide_eq_false (by omega)
        have HS5:Aside0 (Sorted M K2 N a b):=⟨f3_no HF2.out (Or.inl (by omega))⟩
        clear HF2
        go_wp2_with fail
        go_end0
        exact⟨rfl,⟨K2,HA4.out,HS5.out⟩,HG4.out⟩
     ·have hb3:decide ((a:Int)<(s:Int))=false:=decide_eq_false (by omega)
      have HF2:Aside0 (F2 M K N a mid e b):=⟨f2_no HF.out (Or.inl (by omega))⟩
      have HA4:=HA3
      have HG4:=HG3
      obtain⟨K2,rfl⟩: ∃ K2,K2=K:=⟨K,rfl⟩
      clear HF HA3 HG3
      by_cases c5:mid<e
      ·have hb5:decide ((mid:Int)<(e:Int))=true:=decide_eq_true (by omega)
       by_cases c6:e<b
       ·have hb6:decide ((e:Int)<(b:Int))=true:=decide_eq_true (by omega)
        go_wp2_with fail
        refine(IH.out K2 mid e b _ (by omega) HA4.out c5 c6 hb HF2.out.2.1 HF2.out.2.2.1 HF2.out.2.2.2.2.1 HF2.out.2.2.2.2.2.1).mono ?_
        rintro e5 w5 ⟨rfl,⟨K3,ha5,hk5⟩,hg5⟩
        have HA5:=Aside0.mk ha5
        have HS5:Aside0 (Sorted M K3 N a b):=⟨f3_rec HF2.out hk5 (by omega)⟩
        have HG5:Aside0 (Fr w w5 g):=⟨grow_trans HG4.out hg5⟩
        clear ha5 hk5 hg5 HA4 HF2 HG4
        go_wp2_with fail
        go_end0
        exact⟨rfl,⟨K3,HA5.out,HS5.out⟩,HG5.out⟩
       ·have hb6:decide ((e:Int)<(b:Int))=false:=decide_eq_false (by omega)
        have HS5:Aside0 (Sorted M K2 N a b):=⟨f3_no HF2.out (Or.inr (by omega))⟩
        clear HF2
        go_wp2_with fail
        go_end0
        exact⟨rfl,⟨K2,HA4.out,HS5.out⟩,HG4.out⟩
      ·have hb5:decide ((mid:Int)<(e:Int))=false:=decide_eq_false (by omega)
       have HS5:Aside0 (Sorted M K2 N a b):=⟨f3_no HF2.out (Or.inl (by omega))⟩
       clear HF2
       go_wp2_with fail
       go_end0
       exact⟨rfl,⟨K2,HA4.out,HS5.out⟩,HG4.out⟩
 ·have hcb:decide ((mid:Int)<(m:Int))=false:=decide_eq_false (by omega)
  go_wp2_with fail
  go_loopw [20,21] (fun vs vr wr=> ∃ s r:Nat,s0≤s∧s≤r∧r≤r0∧vs= .int .i64 s∧vr= .int .i64 r∧Aside0 (Arr wr g N M)∧Aside0 (∀ c,s0≤c→c<s→(M c).f0≤(M (p - c)).f0)∧Aside0 (∀ c,r≤c→c<r0→(M (p - c)).f0<(M c).f0)∧Aside0 (Fr w wr g)) (fun vs vr _=>(intOf vr).toNat - (intOf vs).toNat)
  case atStart=>exact⟨s0,r0,Nat.le_refl _,HM.out.sr,Nat.le_refl _,by first|rfl|rw[hs0],by rw[hr0],HA,⟨fun y h1 h2=>by omega⟩,⟨fun y h1 h2=>by omega⟩,⟨grow_refl _ _⟩⟩
  case round=>
   clear HA
   obtain⟨s,r,hsr0,hsr,hrr,rfl,rfl,HA1,HL,HR,HG⟩:=hrel
   by_cases hlt:s<r
   ·obtain⟨c,hcq⟩: ∃ c,(s+r) / 2=c:=⟨_,rfl⟩
    have hcz:((s:Int)+(r:Int)) / 2=(c:Int):=by omega
    have HB:Aside0 (s≤c∧c<r∧s0≤c∧c<r0∧c<N∧p - c<N∧c≤p):=by
     obtain⟨q1,q2,q3,q4,q5,q6,q7,q8,q9,q10,q11,q12⟩:=HM.out
     exact⟨by omega,by omega,by omega,by omega,by omega,by omega,by omega⟩
    have bc:c<N:=HB.out.2.2.2.2.1
    obtain⟨q,hq⟩: ∃ q,p - c=q:=⟨_,rfl⟩
    have hqz:(p:Int) - (c:Int)=(q:Int):=by have:=HB.out;omega
    have hwp:IntKind.i64.wrap (q:Int)=(q:Int):=by have:=HB.out;rw[IntKind.wrap_i64];omega
    have b1:=HSM.out c HB.out.2.2.2.2.1
    have b2:=HSM.out q (by have:=HB.out;omega)
    have c0:=HA1.out.q0 (x:=c) HB.out.2.2.2.2.1
    have c1:=HA1.out.q1 (x:=c) HB.out.2.2.2.2.1
    have d0:=HA1.out.q0 (x:=q) (by have:=HB.out;omega)
    have d1:=HA1.out.q1 (x:=q) (by have:=HB.out;omega)
    have z1:(c:Int)<(N:Int):=by have:=HB.out;omega
    have z2:(q:Int)<(N:Int):=by have:=HB.out;omega
    have HQ:=Aside0.mk hq
    clear hcq hq
    go_wp2_with fail
    refine wp_region_quiet_below (by kernel_rfl) (by kernel_rfl) ?_;(repeat(quiet_step ((go_at_call 144;exact calls_below_of (cmp_calls (M q) (M c) b2.1 b2.2 b1.1 b1.2 _)))));refine wpQuiet_nil ?_;intro wq hw';obtain⟨⟨wz,hbq⟩,hwq⟩:=hw';subst hwq
    have HA2:Aside0 (Arr wq g N M):=⟨HA1.out.below hbq⟩
    have HG2:Aside0 (Fr w wq g):=⟨grow_trans HG.out (grow_below hbq)⟩
    clear c0 c1 d0 d1 HA1 HG hbq hcz z1 z2 hqz
    by_cases hlc:(M q).f0<(M c).f0
    ·have hcd:(!decide ((M q).f0 - (M c).f0<0))=false:=by rw[decide_eq_true (by omega)];rfl
     have HR2:Aside0 (∀ y,c≤y→y<r0→(M (p - y)).f0<(M y).f0):=⟨mid_right HM.out HB.out.2.2.1 HB.out.2.2.2.1 HL1.out HL2.out (by rw[HQ.out];exact hlc)⟩
     clear HR hlc b1 b2
     rw[hcd]
     clear hcd
     go_wp2_with fail
     go_roundw
     case rel=>exact⟨s,c,hsr0,HB.out.1,by have:=HB.out;omega,rfl,rfl,HA2,HL,HR2,HG2⟩
     case measure=>have:=HB.out;simp[intOf]<;>omega
    ·have hcd:(!decide ((M q).f0 - (M c).f0<0))=true:=by rw[decide_eq_false (by omega)];rfl
     have HL2':Aside0 (∀ y,s0≤y→y<c+1→(M y).f0≤(M (p - y)).f0):=⟨mid_left HM.out HB.out.2.2.1 HB.out.2.2.2.1 HL1.out HL2.out (by rw[HQ.out];omega)⟩
     clear HL hlc b1 b2
     rw[hcd]
     clear hcd
     go_wp2_with fail
     go_roundw
     case rel=>exact⟨c+1,r,by have:=HB.out;omega,by have:=HB.out;omega,hrr,by go_num,rfl,HA2,HL2',HR,HG2⟩
     case measure=>have:=HB.out;simp[intOf]<;>omega
   ·have er:s=r:=by omega
    subst er
    obtain⟨e,he⟩: ∃ e,s+e=mid+m:=⟨mid+m - s,by have:=HM.out.r0m;omega⟩
    have hez:(mid:Int)+(m:Int) - (s:Int)=(e:Int):=by omega
    have HF:Aside0 (F1 M (rotM M s m e) N a s mid e b):=⟨mid_f1 HM.out hsr0 hrr he HL.out HR.out HL1.out HL2.out HST.out HSM.out hb⟩
    have b1:a≤s:=by have:=HM.out.s0a;omega
    have b2:s≤mid:=by have:=HM.out.r0mid;omega
    have b3:s≤m:=by have:=HM.out.r0m;omega
    have b4:m≤e:=by omega
    have b5:mid≤e:=by omega
    have b6:e≤b:=by have:=HM.out.s0b;omega
    have b7:a+2≤mid+1:=by have:=HM.out.hi;omega
    have b8:mid+2≤b:=by have:=HM.out.lo;omega
    clear HL HR HL1 HL2 HST HSM hlt he hsr hsr0 hrr
    by_cases c1:s<m
    ·have hb1:decide ((s:Int)<(m:Int))=true:=decide_eq_true (by omega)
     by_cases c2:m<e
     ·have hb2:decide ((m:Int)<(e:Int))=true:=decide_eq_true (by omega)
      go_wp2_with fail
      refine(rotate_calls g N cap M s m e _ _ HA1.out hN c1 c2 (by omega)).mono ?_
      rintro e3 w3 ⟨rfl,ha3,hg3⟩
      have HA3:=Aside0.mk ha3
      have HG3:Aside0 (Fr w w3 g):=⟨grow_trans HG.out hg3⟩
      clear ha3 hg3 HA1 HG
      obtain⟨K,hK⟩: ∃ K,K=rotM M s m e:=⟨_,rfl⟩
      rw[← hK] at HA3 HF
      clear hK
      by_cases c3:a<s
      ·have hb3:decide ((a:Int)<(s:Int))=true:=decide_eq_true (by omega)
       by_cases c4:s<mid
       ·have hb4:decide ((s:Int)<(mid:Int))=true:=decide_eq_true (by omega)
        go_wp2_with fail
        refine(IH.out K a s mid _ (by omega) HA3.out c3 c4 (by omega) HF.out.2.1 HF.out.2.2.1 HF.out.2.2.2.1 HF.out.2.2.2.2.1).mono ?_
        rintro e4 w4 ⟨rfl,⟨K2,ha4,hk4⟩,hg4⟩
        have HA4:=Aside0.mk ha4
        have HF2:Aside0 (F2 M K2 N a mid e b):=⟨f2_rec HF.out hk4 b5 b6⟩
        have HG4:Aside0 (Fr w w4 g):=⟨grow_trans HG3.out hg4⟩
        clear ha4 hk4 hg4 HA3 HF HG3
        by_cases c5:mid<e
        ·have hb5:decide ((mid:Int)<(e:Int))=true:=decide_eq_true (by omega)
         by_cases c6:e<b
         ·have hb6:decide ((e:Int)<(b:Int))=true:=decide_eq_true (by omega)
          go_wp2_with fail
          refine(IH.out K2 mid e b _ (by omega) HA4.out c5 c6 hb HF2.out.2.1 HF2.out.2.2.1 HF2.out.2.2.2.2.1 HF2.out.2.2.2.2.2.1).mono ?_
          rintro e5 w5 ⟨rfl,⟨K3,ha5,hk5⟩,hg5⟩
          have HA5:=Aside0.mk ha5
          have HS5:Aside0 (Sorted M K3 N a b):=⟨f3_rec HF2.out hk5 (by omega)⟩
          have HG5:Aside0 (Fr w w5 g):=⟨grow_trans HG4.out hg5⟩
          clear ha5 hk5 hg5 HA4 HF2 HG4
          go_wp2_with fail
          go_end0
          exact⟨rfl,⟨K3,HA5.out,HS5.out⟩,HG5.out⟩
         ·have hb6:decide ((e:Int)<(b:Int))=false:=decide_eq_false (by omega)
          have HS5:Aside0 (Sorted M K2 N a b):=⟨f3_no HF2.out (Or.inr (by omega))⟩
          clear HF2
          go_wp2_with fail
          go_end0
          exact⟨rfl,⟨K2,HA4.out,HS5.out⟩,HG4.out⟩
        ·have hb5:decide ((mid:Int)<(e:Int))=false:=decide_eq_false (by omega)
         have HS5:Aside0 (Sorted M K2 N a b):=⟨f3_no HF2.out (Or.inl (by omega))⟩
         clear HF2
         go_wp2_with fail
         go_end0
         exact⟨rfl,⟨K2,HA4.out,HS5.out⟩,HG4.out⟩
       ·have hb4:decide ((s:Int)<(mid:Int))=false:=decide_eq_false (by omega)
        have HF2:Aside0 (F2 M K N a mid e b):=⟨f2_no HF.out (Or.inr (by omega))⟩
        have HA4:=HA3
        have HG4:=HG3
        obtain⟨K2,rfl⟩: ∃ K2,K2=K:=⟨K,rfl⟩
        clear HF HA3 HG3
        by_cases c5:mid<e
        ·have hb5:decide ((mid:Int)<(e:Int))=true:=decide_eq_true (by omega)
         by_cases c6:e<b
         ·have hb6:decide ((e:Int)<(b:Int))=true:=decide_eq_true (by omega)
          go_wp2_with fail
          refine(IH.out K2 mid e b _ (by omega) HA4.out c5 c6 hb HF2.out.2.1 HF2.out.2.2.1 HF2.out.2.2.2.2.1 HF2.out.2.2.2.2.2.1).mono ?_
          rintro e5 w5 ⟨rfl,⟨K3,ha5,hk5⟩,hg5⟩
          have HA5:=Aside0.mk ha5
          have HS5:Aside0 (Sorted M K3 N a b):=⟨f3_rec HF2.out hk5 (by omega)⟩
          have HG5:Aside0 (Fr w w5 g):=⟨grow_trans HG4.out hg5⟩
          clear ha5 hk5 hg5 HA4 HF2 HG4
          go_wp2_with fail
          go_end0
          exact⟨rfl,⟨K3,HA5.out,HS5.out⟩,HG5.out⟩
         ·have hb6:decide ((e:Int)<(b:Int))=false:=decide_eq_false (by omega)
          have HS5:Aside0 (Sorted M K2 N a b):=⟨f3_no HF2.out (Or.inr (by omega))⟩
          clear HF2
          go_wp2_with fail
          go_end0
          exact⟨rfl,⟨K2,HA4.out,HS5.out⟩,HG4.out⟩
        ·have hb5:decide ((mid:Int)<(e:Int))=false:=decide_eq_false (by omega)
         have HS5:Aside0 (Sorted M K2 N a b):=⟨f3_no HF2.out (Or.inl (by omega))⟩
         clear HF2
         go_wp2_with fail
         go_end0
         exact⟨rfl,⟨K2,HA4.out,HS5.out⟩,HG4.out⟩
      ·have hb3:decide ((a:Int)<(s:Int))=false:=decide_eq_false (by omega)
       have HF2:Aside0 (F2 M K N a mid e b):=⟨f2_no HF.out (Or.inl (by omega))⟩
       have HA4:=HA3
       have HG4:=HG3
       obtain⟨K2,rfl⟩: ∃ K2,K2=K:=⟨K,rfl⟩
       clear HF HA3 HG3
       by_cases c5:mid<e
       ·have hb5:decide ((mid:Int)<(e:Int))=true:=decide_eq_true (by omega)
        by_cases c6:e<b
        ·have hb6:decide ((e:Int)<(b:Int))=true:=decide_eq_true (by omega)
         go_wp2_with fail
         refine(IH.out K2 mid e b _ (by omega) HA4.out c5 c6 hb HF2.out.2.1 HF2.out.2.2.1 HF2.out.2.2.2.2.1 HF2.out.2.2.2.2.2.1).mono ?_
         rintro e5 w5 ⟨rfl,⟨K3,ha5,hk5⟩,hg5⟩
         have HA5:=Aside0.mk ha5
         have HS5:Aside0 (Sorted M K3 N a b):=⟨f3_rec HF2.out hk5 (by omega)⟩
         have HG5:Aside0 (Fr w w5 g):=⟨grow_trans HG4.out hg5⟩
         clear ha5 hk5 hg5 HA4 HF2 HG4
         go_wp2_with fail
         go_end0
         exact⟨rfl,⟨K3,HA5.out,HS5.out⟩,HG5.out⟩
        ·have hb6:decide ((e:Int)<(b:Int))=false:=decide_eq_false (by omega)
         have HS5:Aside0 (Sorted M K2 N a b):=⟨f3_no HF2.out (Or.inr (by omega))⟩
         clear HF2
         go_wp2_with fail
         go_end0
         exact⟨rfl,⟨K2,HA4.out,HS5.out⟩,HG4.out⟩
       ·have hb5:decide ((mid:Int)<(e:Int))=false:=decide_eq_false (by omega)
        have HS5:Aside0 (Sorted M K2 N a b):=⟨f3_no HF2.out (Or.inl (by omega))⟩
        clear HF2
        go_wp2_with fail
        go_end0
        exact⟨rfl,⟨K2,HA4.out,HS5.out⟩,HG4.out⟩
     ·have hb2:decide ((m:Int)<(e:Int))=false:=decide_eq_false (by omega)
      have HA3:Aside0 (Arr wr g N (rotM M s m e)):=⟨HA1.out.congr fun x _=>rot_none M (by omega) (by omega) (Or.inr (by omega)) x⟩
      have HG3:=HG
      clear HA1 HG
      obtain⟨K,hK⟩: ∃ K,K=rotM M s m e:=⟨_,rfl⟩
      rw[← hK] at HA3 HF
      clear hK
      by_cases c3:a<s
      ·have hb3:decide ((a:Int)<(s:Int))=true:=decide_eq_true (by omega)
       by_cases c4:s<mid
       ·have hb4:decide ((s:Int)<(mid:Int))=true:=decide_eq_true (by omega)
        go_wp2_with fail
        refine(IH.out K a s mid _ (by omega) HA3.out c3 c4 (by omega) HF.out.2.1 HF.out.2.2.1 HF.out.2.2.2.1 HF.out.2.2.2.2.1).mono ?_
        rintro e4 w4 ⟨rfl,⟨K2,ha4,hk4⟩,hg4⟩
        have HA4:=Aside0.mk ha4
        have HF2:Aside0 (F2 M K2 N a mid e b):=⟨f2_rec HF.out hk4 b5 b6⟩
        have HG4:Aside0 (Fr w w4 g):=⟨grow_trans HG3.out hg4⟩
        clear ha4 hk4 hg4 HA3 HF HG3
        by_cases c5:mid<e
        ·have hb5:decide ((mid:Int)<(e:Int))=true:=decide_eq_true (by omega)
         by_cases c6:e<b
         ·have hb6:decide ((e:Int)<(b:Int))=true:=decide_eq_true (by omega)
          go_wp2_with fail
          refine(IH.out K2 mid e b _ (by omega) HA4.out c5 c6 hb HF2.out.2.1 HF2.out.2.2.1 HF2.out.2.2.2.2.1 HF2.out.2.2.2.2.2.1).mono ?_
          rintro e5 w5 ⟨rfl,⟨K3,ha5,hk5⟩,hg5⟩
          have HA5:=Aside0.mk ha5
          have HS5:Aside0 (Sorted M K3 N a b):=⟨f3_rec HF2.out hk5 (by omega)⟩
          have HG5:Aside0 (Fr w w5 g):=⟨grow_trans HG4.out hg5⟩
          clear ha5 hk5 hg5 HA4 HF2 HG4
          go_wp2_with fail
          go_end0
          exact⟨rfl,⟨K3,HA5.out,HS5.out⟩,HG5.out⟩
         ·have hb6:decide ((e:Int)<(b:Int))=false:=decide_eq_false (by omega)
          have HS5:Aside0 (Sorted M K2 N a b):=⟨f3_no HF2.out (Or.inr (by omega))⟩
          clear HF2
          go_wp2_with fail
          go_end0
          exact⟨rfl,⟨K2,HA4.out,HS5.out⟩,HG4.out⟩
        ·have hb5:decide ((mid:Int)<(e:Int))=false:=decide_eq_false (by omega)
         have HS5:Aside0 (Sorted M K2 N a b):=⟨f3_no HF2.out (Or.inl (by omega))⟩
         clear HF2
         go_wp2_with fail
         go_end0
         exact⟨rfl,⟨K2,HA4.out,HS5.out⟩,HG4.out⟩
       ·have hb4:decide ((s:Int)<(mid:Int))=false:=decide_eq_false (by omega)
        have HF2:Aside0 (F2 M K N a mid e b):=⟨f2_no HF.out (Or.inr (by omega))⟩
        have HA4:=HA3
        have HG4:=HG3
        obtain⟨K2,rfl⟩: ∃ K2,K2=K:=⟨K,rfl⟩
        clear HF HA3 HG3
        by_cases c5:mid<e
        ·have hb5:decide ((mid:Int)<(e:Int))=true:=decide_eq_true (by omega)
         by_cases c6:e<b
         ·have hb6:decide ((e:Int)<(b:Int))=true:=decide_eq_true (by omega)
          go_wp2_with fail
          refine(IH.out K2 mid e b _ (by omega) HA4.out c5 c6 hb HF2.out.2.1 HF2.out.2.2.1 HF2.out.2.2.2.2.1 HF2.out.2.2.2.2.2.1).mono ?_
          rintro e5 w5 ⟨rfl,⟨K3,ha5,hk5⟩,hg5⟩
          have HA5:=Aside0.mk ha5
          have HS5:Aside0 (Sorted M K3 N a b):=⟨f3_rec HF2.out hk5 (by omega)⟩
          have HG5:Aside0 (Fr w w5 g):=⟨grow_trans HG4.out hg5⟩
          clear ha5 hk5 hg5 HA4 HF2 HG4
          go_wp2_with fail
          go_end0
          exact⟨rfl,⟨K3,HA5.out,HS5.out⟩,HG5.out⟩
         ·have hb6:decide ((e:Int)<(b:Int))=false:=decide_eq_false (by omega)
          have HS5:Aside0 (Sorted M K2 N a b):=⟨f3_no HF2.out (Or.inr (by omega))⟩
          clear HF2
          go_wp2_with fail
          go_end0
          exact⟨rfl,⟨K2,HA4.out,HS5.out⟩,HG4.out⟩
        ·have hb5:decide ((mid:Int)<(e:Int))=false:=decide_eq_false (by omega)
         have HS5:Aside0 (Sorted M K2 N a b):=⟨f3_no HF2.out (Or.inl (by omega))⟩
         clear HF2
         go_wp2_with fail
         go_end0
         exact⟨rfl,⟨K2,HA4.out,HS5.out⟩,HG4.out⟩
      ·have hb3:decide ((a:Int)<(s:Int))=false:=decide_eq_false (by omega)
       have HF2:Aside0 (F2 M K N a mid e b):=⟨f2_no HF.out (Or.inl (by omega))⟩
       have HA4:=HA3
       have HG4:=HG3
       obtain⟨K2,rfl⟩: ∃ K2,K2=K:=⟨K,rfl⟩
       clear HF HA3 HG3
       by_cases c5:mid<e
       ·have hb5:decide ((mid:Int)<(e:Int))=true:=decide_eq_true (by omega)
        by_cases c6:e<b
        ·have hb6:decide ((e:Int)<(b:Int))=true:=decide_eq_true (by omega)
         go_wp2_with fail
         refine(IH.out K2 mid e b _ (by omega) HA4.out c5 c6 hb HF2.out.2.1 HF2.out.2.2.1 HF2.out.2.2.2.2.1 HF2.out.2.2.2.2.2.1).mono ?_
         rintro e5 w5 ⟨rfl,⟨K3,ha5,hk5⟩,hg5⟩
         have HA5:=Aside0.mk ha5
         have HS5:Aside0 (Sorted M K3 N a b):=⟨f3_rec HF2.out hk5 (by omega)⟩
         have HG5:Aside0 (Fr w w5 g):=⟨grow_trans HG4.out hg5⟩
         clear ha5 hk5 hg5 HA4 HF2 HG4
         go_wp2_with fail
         go_end0
         exact⟨rfl,⟨K3,HA5.out,HS5.out⟩,HG5.out⟩
        ·have hb6:decide ((e:Int)<(b:Int))=false:=decide_eq_false (by omega)
         have HS5:Aside0 (Sorted M K2 N a b):=⟨f3_no HF2.out (Or.inr (by omega))⟩
         clear HF2
         go_wp2_with fail
         go_end0
         exact⟨rfl,⟨K2,HA4.out,HS5.out⟩,HG4.out⟩
       ·have hb5:decide ((mid:Int)<(e:Int))=false:=decide_eq_false (by omega)
        have HS5:Aside0 (Sorted M K2 N a b):=⟨f3_no HF2.out (Or.inl (by omega))⟩
        clear HF2
        go_wp2_with fail
        go_end0
        exact⟨rfl,⟨K2,HA4.out,HS5.out⟩,HG4.out⟩
    ·have hb1:decide ((s:Int)<(m:Int))=false:=decide_eq_false (by omega)
     have HA3:Aside0 (Arr wr g N (rotM M s m e)):=⟨HA1.out.congr fun x _=>rot_none M (by omega) (by omega) (Or.inl (by omega)) x⟩
     have HG3:=HG
     clear HA1 HG
     obtain⟨K,hK⟩: ∃ K,K=rotM M s m e:=⟨_,rfl⟩
     rw[← hK] at HA3 HF
     clear hK
     by_cases c3:a<s
     ·have hb3:decide ((a:Int)<(s:Int))=true:=decide_eq_true (by omega)
      by_cases c4:s<mid
      ·have hb4:decide ((s:Int)<(mid:Int))=true:=decide_eq_true (by omega)
       go_wp2_with fail
       refine(IH.out K a s mid _ (by omega) HA3.out c3 c4 (by omega) HF.out.2.1 HF.out.2.2.1 HF.out.2.2.2.1 HF.out.2.2.2.2.1).mono ?_
       rintro e4 w4 ⟨rfl,⟨K2,ha4,hk4⟩,hg4⟩
       have HA4:=Aside0.mk ha4
       have HF2:Aside0 (F2 M K2 N a mid e b):=⟨f2_rec HF.out hk4 b5 b6⟩
       have HG4:Aside0 (Fr w w4 g):=⟨grow_trans HG3.out hg4⟩
       clear ha4 hk4 hg4 HA3 HF HG3
       by_cases c5:mid<e
       ·have hb5:decide ((mid:Int)<(e:Int))=true:=decide_eq_true (by omega)
        by_cases c6:e<b
        ·have hb6:decide ((e:Int)<(b:Int))=true:=decide_eq_true (by omega)
         go_wp2_with fail
         refine(IH.out K2 mid e b _ (by omega) HA4.out c5 c6 hb HF2.out.2.1 HF2.out.2.2.1 HF2.out.2.2.2.2.1 HF2.out.2.2.2.2.2.1).mono ?_
         rintro e5 w5 ⟨rfl,⟨K3,ha5,hk5⟩,hg5⟩
         have HA5:=Aside0.mk ha5
         have HS5:Aside0 (Sorted M K3 N a b):=⟨f3_rec HF2.out hk5 (by omega)⟩
         have HG5:Aside0 (Fr w w5 g):=⟨grow_trans HG4.out hg5⟩
         clear ha5 hk5 hg5 HA4 HF2 HG4
         go_wp2_with fail
         go_end0
         exact⟨rfl,⟨K3,HA5.out,HS5.out⟩,HG5.out⟩
        ·have hb6:decide ((e:Int)<(b:Int))=false:=decide_eq_false (by omega)
         have HS5:Aside0 (Sorted M K2 N a b):=⟨f3_no HF2.out (Or.inr (by omega))⟩
         clear HF2
         go_wp2_with fail
         go_end0
         exact⟨rfl,⟨K2,HA4.out,HS5.out⟩,HG4.out⟩
       ·have hb5:decide ((mid:Int)<(e:Int))=false:=decide_eq_false (by omega)
        have HS5:Aside0 (Sorted M K2 N a b):=⟨f3_no HF2.out (Or.inl (by omega))⟩
        clear HF2
        go_wp2_with fail
        go_end0
        exact⟨rfl,⟨K2,HA4.out,HS5.out⟩,HG4.out⟩
      ·have hb4:decide ((s:Int)<(mid:Int))=false:=decide_eq_false (by omega)
       have HF2:Aside0 (F2 M K N a mid e b):=⟨f2_no HF.out (Or.inr (by omega))⟩
       have HA4:=HA3
       have HG4:=HG3
       obtain⟨K2,rfl⟩: ∃ K2,K2=K:=⟨K,rfl⟩
       clear HF HA3 HG3
       by_cases c5:mid<e
       ·have hb5:decide ((mid:Int)<(e:Int))=true:=decide_eq_true (by omega)
        by_cases c6:e<b
        ·have hb6:decide ((e:Int)<(b:Int))=true:=decide_eq_true (by omega)
         go_wp2_with fail
         refine(IH.out K2 mid e b _ (by omega) HA4.out c5 c6 hb HF2.out.2.1 HF2.out.2.2.1 HF2.out.2.2.2.2.1 HF2.out.2.2.2.2.2.1).mono ?_
         rintro e5 w5 ⟨rfl,⟨K3,ha5,hk5⟩,hg5⟩
         have HA5:=Aside0.mk ha5
         have HS5:Aside0 (Sorted M K3 N a b):=⟨f3_rec HF2.out hk5 (by omega)⟩
         have HG5:Aside0 (Fr w w5 g):=⟨grow_trans HG4.out hg5⟩
         clear ha5 hk5 hg5 HA4 HF2 HG4
         go_wp2_with fail
         go_end0
         exact⟨rfl,⟨K3,HA5.out,HS5.out⟩,HG5.out⟩
        ·have hb6:decide ((e:Int)<(b:Int))=false:=decide_eq_false (by omega)
         have HS5:Aside0 (Sorted M K2 N a b):=⟨f3_no HF2.out (Or.inr (by omega))⟩
         clear HF2
         go_wp2_with fail
         go_end0
         exact⟨rfl,⟨K2,HA4.out,HS5.out⟩,HG4.out⟩
       ·have hb5:decide ((mid:Int)<(e:Int))=false:=decide_eq_false (by omega)
        have HS5:Aside0 (Sorted M K2 N a b):=⟨f3_no HF2.out (Or.inl (by omega))⟩
        clear HF2
        go_wp2_with fail
        go_end0
        exact⟨rfl,⟨K2,HA4.out,HS5.out⟩,HG4.out⟩
     ·have hb3:decide ((a:Int)<(s:Int))=false:=decide_eq_false (by omega)
      have HF2:Aside0 (F2 M K N a mid e b):=⟨f2_no HF.out (Or.inl (by omega))⟩
      have HA4:=HA3
      have HG4:=HG3
      obtain⟨K2,rfl⟩: ∃ K2,K2=K:=⟨K,rfl⟩
      clear HF HA3 HG3
      by_cases c5:mid<e
      ·have hb5:decide ((mid:Int)<(e:Int))=true:=decide_eq_true (by omega)
       by_cases c6:e<b
       ·have hb6:decide ((e:Int)<(b:Int))=true:=decide_eq_true (by omega)
        go_wp2_with fail
        refine(IH.out K2 mid e b _ (by omega) HA4.out c5 c6 hb HF2.out.2.1 HF2.out.2.2.1 HF2.out.2.2.2.2.1 HF2.out.2.2.2.2.2.1).mono ?_
        rintro e5 w5 ⟨rfl,⟨K3,ha5,hk5⟩,hg5⟩
        have HA5:=Aside0.mk ha5
        have HS5:Aside0 (Sorted M K3 N a b):=⟨f3_rec HF2.out hk5 (by omega)⟩
        have HG5:Aside0 (Fr w w5 g):=⟨grow_trans HG4.out hg5⟩
        clear ha5 hk5 hg5 HA4 HF2 HG4
        go_wp2_with fail
        go_end0
        exact⟨rfl,⟨K3,HA5.out,HS5.out⟩,HG5.out⟩
       ·have hb6:decide ((e:Int)<(b:Int))=false:=decide_eq_false (by omega)
        have HS5:Aside0 (Sorted M K2 N a b):=⟨f3_no HF2.out (Or.inr (by omega))⟩
        clear HF2
        go_wp2_with fail
        go_end0
        exact⟨rfl,⟨K2,HA4.out,HS5.out⟩,HG4.out⟩
      ·have hb5:decide ((mid:Int)<(e:Int))=false:=decide_eq_false (by omega)
       have HS5:Aside0 (Sorted M K2 N a b):=⟨f3_no HF2.out (Or.inl (by omega))⟩
       clear HF2
       go_wp2_with fail
       go_end0
       exact⟨rfl,⟨K2,HA4.out,HS5.out⟩,HG4.out⟩
theorem sym_ok (g N cap:Nat) (hN:N≤1000000): ∀ d,SymOk g N cap d
 |0=>fun M a m b w hd h h1 h2 hb hs hsm l1 l2=>by omega
 |d+1=>fun M a m b w hd h h1 h2 hb hs hsm l1 l2=>by
  by_cases e1:m=a+1
  ·subst e1
   have:=symLo_calls g N cap M a b w h hN h2 hb hs hsm l2
   exact this
  ·by_cases e2:b=m+1
   ·subst e2
    have:=symHi_calls g N cap M a m w h hN (by omega) hb hs hsm l1
    exact this
   ·exact symMid_calls g N cap d (sym_ok g N cap hN d) M a m b w hd h hN (by omega) (by omega) hb hs hsm l1 l2
end Go.Proofs.Ytkcpanpdipmmmaa.H
