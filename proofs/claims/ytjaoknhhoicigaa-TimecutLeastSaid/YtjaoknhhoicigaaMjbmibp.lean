/- What the law's row needs of these texts, taken out of them by wip/tool/mini.py: QOpen QMaxLaw QGridLaw QMade18 QAwake18 QLMeets QGridMax QLevelLaw QRoomRef QCheckRef QWayFact QMostLaw QGridRef QLLeast. -/
import Derived.Test.YtjaoknhhoicigaaVcdbijf
import Derived.Deep.Slices
import Derived.Deep.Fields
import Derived.ChangeSame
import Derived.ChangeArms
import Derived.OpenShut
import Derived.Test.YtjaoknhhoicigaaMbjegbn
import Derived.Test.YtjaoknhhoicigaaMaoiegm
import Derived.Test.YtjaoknhhoicigaaMaaiadp
import Derived.Test.YtjaoknhhoicigaaMjdiiac
import Derived.RegionTactic
import Derived.ChangeAlike
import Derived.BigRegion
import Derived.LoopTactic
import Derived.WalkKit
import Derived.Laws.AppendOwn
import Derived.Deep.RegionWith
import Derived.Deep.RegionHeld3
import Derived.StillTailTactics
import Derived.Test.YtjaoknhhoicigaaMegcdhb
set_option linter.unusedVariables false
set_option linter.unusedSimpArgs false
open Go.RowKit Go.Proofs.YtjaoknhhoicigaaW.PrintWords Go.Proofs.YtjaoknhhoicigaaW.PrintLast Go.Proofs.YtjaoknhhoicigaaW.PrintMore
namespace Go.Proofs.Ytjaoknhhoicigaa
namespace Opn
open Go.ChangeShapes Go.WideShapes Go.Deep 
def Opens (P:Program) (t:TypeId) {α:Type} (d:Kd α) (ok:α→Prop):Prop:=
 ∀ (H:Type) (enc:TypeId × Value→H) (w:World) (base:Nat) (spare:Nat→Bool) (held:Bool) (fuel:Nat) (cs:List Value) (x:DataW H × List MemPlace),
  DataW.trod enc P w base spare held fuel t cs=some x→ ∃ a:α,d.K w a cs∧ok a
theorem opens_int {P:Program} {t:TypeId} {k:IntKind} (ht:P.underlying t=some (.int k)):Opens P t (Kd.int k) (fun n=>(Lit.int k n).wf=true):=by
 intro H enc w base spare held fuel cs x h;obtain⟨n,rfl,_,hw⟩:=DataW.trod_int ht h;exact⟨n,rfl,hw⟩
theorem opens_bool {P:Program} {t:TypeId} (ht:P.underlying t=some .bool):Opens P t Kd.bool (fun _=>True):=by
 intro H enc w base spare held fuel cs x h;obtain⟨b,rfl,_⟩:=DataW.trod_bool ht h;exact⟨b,rfl,trivial⟩
theorem opens_slice {P:Program} {t e:TypeId} {α:Type} {d:Kd α} {ok:α→Prop} (ht:P.underlying t=some (.slice e)) (hc:P.cellsOf e=d.sz) (h:Opens P e d ok):
  Opens P t (Kd.slice e d) (fun l=>l.length≤9223372036854775807∧ ∀ x∈l,ok x):=by
 intro H enc w base spare held fuel cs x hx;rcases open_slice ht hx with ⟨rfl,_⟩|⟨a,len,cap,m,n,D,Pl,rfl,hb,hl,hm,hmm,_,hi⟩
 ·exact⟨[],⟨none,0,rfl,Nat.le_refl _,rfl,by simp,fun h=>absurd h (by simp)⟩,by simp,by simp⟩
 ·have hlm:len≤m:=by rw[hmm];split<;>omega
  have hel: ∀ i:Nat,i<len→ ∃ a':α,ok a'∧ ∃ c,c.length=d.sz∧d.K w a' c∧ ∀ j u,c[j]? =some u→w.cell? (a.add (i * d.sz+j))=some u:=by
   intro i hil;obtain⟨cs',hcs,htr⟩:=hi i (by omega);obtain⟨a',hK,hok⟩:=h H enc w base spare held n cs' _ htr;rw[hc] at hcs;obtain⟨_,hcl,hat⟩:=World.cells?_some hcs;refine⟨a',hok,cs',hcl,hK,fun j u hu=> ?_⟩;have hj:j<d.sz:=by have:=(List.getElem?_eq_some_iff.1 hu).1;omega
   have:=hat j hj;rw[← Go.Deep.add_add,this,hu]
  have hrow: ∀ k:Nat,k≤len→ ∃ xs:List α,xs.length=k∧(∀ x∈xs,ok x)∧ ∀ j p,xs[j]? =some p→ ∃ c,c.length=d.sz∧d.K w p c∧ ∀ i u,c[i]? =some u→w.cell? (a.add (j * d.sz+i))=some u:=by
   intro k
   induction k with
   |zero=>exact fun _=>⟨[],rfl,by simp,by simp⟩
   |succ k ih=>
    intro hk;obtain⟨xs,h1,h2,h3⟩:=ih (by omega);obtain⟨a',ho,c,hcl,hK,hcell⟩:=hel k (by omega);refine⟨xs ++ [a'],by simp[h1],fun x hx=> ?_,fun j p hj=> ?_⟩
    ·rcases List.mem_append.1 hx with h|h
     ·exact h2 x h
     ·rw[List.mem_singleton.1 h];exact ho
    ·by_cases hjk:j<xs.length
     ·rw[List.getElem?_append_left hjk] at hj
      exact h3 j p hj
     ·have hjl:=(List.getElem?_eq_some_iff.1 hj).1
      simp at hjl;have hje:j=k:=by omega
      subst hje;rw[← h1,List.getElem?_concat_length] at hj;obtain rfl:=Option.some.inj hj;exact⟨c,hcl,hK,hcell⟩
  obtain⟨xs,h1,h2,h3⟩:=hrow len (Nat.le_refl _);have hmx:len≤9223372036854775807:=by unfold maxLen at hm;omega
  subst h1;exact⟨xs,⟨some a,cap,rfl,hl,rfl,hmx,fun _=>⟨a,rfl,h3⟩⟩,hmx,h2⟩
theorem opens_iso {P:Program} {t:TypeId} {α β:Type} {d:Kd α} {ok:α→Prop} (h:Opens P t d ok) (f:β→α) (g:α→β) (hfg: ∀ x,f (g x)=x):Opens P t (Kd.iso d f) (fun y=>ok (f y)):=by
 intro H enc w base spare held fuel cs x hx;obtain⟨a,hK,hok⟩:=h H enc w base spare held fuel cs x hx;exact⟨g a,by show d.K w (f (g a)) cs;rw[hfg];exact hK,by show ok (f (g a));rw[hfg];exact hok⟩
def OpensFs (P:Program) (fs:List Field) (off:Nat) {α:Type} (d:Kd α) (ok:α→Prop):Prop:=
 ∀ (H:Type) (enc:TypeId × Value→H) (w:World) (base:Nat) (spare:Nat→Bool) (held:Bool) (n:Nat) (cs:List Value),cs.length=off+d.sz→
  (∀ f∈fs, ∃ y,DataW.trod enc P w base spare held n f.type ((cs.drop f.offset).take (P.cellsOf f.type))=some y)→ ∃ a:α,d.K w a (cs.drop off)∧ok a
theorem fs_one {P:Program} {f:Field} {off:Nat} {α:Type} {d:Kd α} {ok:α→Prop} (ho:f.offset=off) (hc:P.cellsOf f.type=d.sz) (h:Opens P f.type d ok):OpensFs P [f] off d ok:=by
 intro H enc w base spare held n cs hl hf;obtain⟨y,hy⟩:=hf f (by simp);rw[ho,hc,List.take_of_length_le (by simp;omega)] at hy;exact h H enc w base spare held n _ y hy
theorem fs_cons {P:Program} {f:Field} {fs:List Field} {off:Nat} {α β:Type} {d:Kd α} {d':Kd β} {ok:α→Prop} {ok':β→Prop} (ho:f.offset=off) (hc:P.cellsOf f.type=d.sz) (h:Opens P f.type d ok)
  (hr:OpensFs P fs (off+d.sz) d' ok'):OpensFs P (f::fs) off (Kd.pair d d') (fun x=>ok x.1∧ok' x.2):=by
 intro H enc w base spare held n cs hl hf;have hsz:(Kd.pair d d').sz=d.sz+d'.sz:=rfl;rw[hsz] at hl;obtain⟨y,hy⟩:=hf f (by simp);rw[ho,hc] at hy;obtain⟨a,hK,hok⟩:=h H enc w base spare held n _ y hy;obtain⟨b,hKb,hokb⟩:=hr H enc w base spare held n cs (by omega) (fun f' hf'=>hf f' (List.mem_cons_of_mem _ hf'));refine⟨(a,b),⟨_,_,?_,hK,hKb⟩,hok,hokb⟩;rw[← List.drop_drop];exact(List.take_append_drop _ _).symm
theorem opens_struct {P:Program} {t:TypeId} {fs:Array Field} {α:Type} {d:Kd α} {ok:α→Prop} (hs:P.underlying t=some (.struct fs)) (hC:P.cellsOf t=d.sz) (h:OpensFs P fs.toList 0 d ok):Opens P t d ok:=by
 intro H enc w base spare held fuel cs x hx;obtain⟨xs,n,_,_,hl,hlen,hf⟩:=DataW.trod_struct hs hx;obtain⟨a,hK,hok⟩:=h H enc w base spare held n cs (by rw[hl,hC,Nat.zero_add]) (fun f hfm=>by
  obtain⟨j,hj⟩:=List.getElem?_of_mem hfm;have hj':fs[j]? =some f:=by rw[← hj];simp
  have hjl:j<xs.length:=by rw[hlen];exact(Array.getElem?_eq_some_iff.1 hj').1
  have h1:=hf j f hj';rw[List.getElem?_eq_getElem hjl] at h1;exact⟨_,h1⟩)
 exact⟨a,hK,hok⟩
theorem arg_struct {H:Type} {enc:TypeId × Value→H} {P:Program} {w:World} {base b0:Nat} {spare:Nat→Bool} {held:Bool} {r:Reach} {t:TypeId} {fs:Array Field} {v:Value} {dd:DataW H} {p:List MemPlace} {α:Type} {d:Kd α} {ok:α→Prop}
  (hs:P.underlying t=some (.struct fs)) (ho:Opens P t d ok) (hv:Value.okWide P w r b0 t v) (h:DataW.Trod enc P w base spare held t v dd p): ∃ a cs,v= .agg cs∧d.K w a cs.toList∧ok a:=by
 obtain⟨cs,rfl,hsz⟩:=okWide_struct hs hv;obtain⟨fuel,hf⟩:=h;obtain⟨a,hK,hok⟩:=ho H enc w base spare held fuel _ _ hf;exact⟨a,cs,rfl,by simpa [Value.cells] using hK,hok⟩
theorem arg_slice {H:Type} {enc:TypeId × Value→H} {P:Program} {w:World} {base b0:Nat} {spare:Nat→Bool} {held:Bool} {r:Reach} {t e:TypeId} {v:Value} {dd:DataW H} {p:List MemPlace} {α:Type} {d:Kd α} {ok:List α→Prop}
  (hs:P.underlying t=some (.slice e)) (ho:Opens P t (Kd.slice e d) ok) (hv:Value.okWide P w r b0 t v) (h:DataW.Trod enc P w base spare held t v dd p): ∃ A c l,v= .slice A l.length c∧l.length≤c∧d.C w A l.length l∧ok l:=by
 obtain⟨A,len,cap,rfl⟩:=okWide_slice hs hv;obtain⟨fuel,hf⟩:=h;obtain⟨l,⟨A',c,he,hlc,hC⟩,hok⟩:=ho H enc w base spare held fuel _ _ hf;simp[Value.cells] at he;obtain⟨rfl,rfl,rfl⟩:=he;exact⟨A,cap,l,rfl,hlc,hC,hok⟩
end Opn
namespace H
open P Q
theorem zeros_of {l:List S73} {F:List Int} {n s t:Nat} (h:Right l F n):IsFlow l (List.replicate l.length 0) n s t∧bal l (List.replicate l.length 0) s=0:=
 zeros_flow h.pos h.fifty h.arcs h.ends (fun i hi=>by have:=h.nums i hi;exact⟨this.1,this.2.1,by omega,by omega⟩)
theorem capR_app (R:Int→Bool) (l r:List S73):capR R (l ++ r)=capR R l+capR R r:=by
 induction l with
 |nil=>simp[capR]
 |cons a l ih=>rw[List.cons_append,capR_cons,capR_cons,ih];omega
end H
namespace H
open P Q
def mvA (w a:Int) (x:S73):S73:=⟨a * w+x.f0,(a+x.f3) * w+x.f1,x.f2,0⟩
def mvL (use:S73→Bool) (w span a:Int):List S73→List S73
 |[]=>[]
 |x::l=>if a+x.f3≤span∧use x=true then mvA w a x::mvL use w span a l else mvL use w span a l
def wtA (w a v:Int):S73:=⟨a * w+v,(a+1) * w+v,1099511627776,0⟩
def wtL (keeps:Int→Bool) (w span a:Int):Nat→Nat→List S73
 |_,0=>[]
 |i,d+1=>if a<span∧keeps i=true then wtA w a i::wtL keeps w span a (i+1) d else wtL keeps w span a (i+1) d
def gridL (use:S73→Bool) (keeps:Int→Bool) (w span:Int) (l:List S73):Nat→Nat→List S73
 |_,0=>[]
 |i,d+1=>(mvL use w span i l ++ wtL keeps w span i 0 w.toNat) ++ gridL use keeps w span l (i+1) d
def fiA (w span s a:Int):S73:=⟨(span+1) * w,a * w+s,1099511627776,0⟩
def laA (w span t a:Int):S73:=⟨a * w+t,(span+1) * w+1,1099511627776,0⟩
def fiL (w span s:Int):Nat→Nat→List S73
 |_,0=>[]
 |i,d+1=>fiA w span s i::fiL w span s (i+1) d
def laL (w span t:Int):Nat→Nat→List S73
 |_,0=>[]
 |i,d+1=>laA w span t i::laL w span t (i+1) d
def useO (s t:Int) (x:S73):Bool:=decide (x.f1≠s) && decide (x.f0≠t)
def keepsO (hold:Bool) (s t v:Int):Bool:=hold && decide (v≠s) && decide (v≠t)
def baseG (use:S73→Bool) (keeps:Int→Bool) (w:Int) (l:List S73) (span:Int):List S73:=gridL use keeps w span l 0 (span.toNat+1)
def bigG (w:Int) (hold:Bool) (l:List S73) (s t span:Int):List S73:=
 baseG (useO s t) (keepsO hold s t) w l span ++ (fiL w span s 0 (span.toNat+1) ++ laL w span t 0 (span.toNat+1))
theorem mem_mvL {use:S73→Bool} {w span a:Int} {e:S73} : ∀ {l:List S73},e∈mvL use w span a l↔ ∃ x∈l,a+x.f3≤span∧use x=true∧e=mvA w a x
 |[]=>by simp[mvL]
 |x::l=>by
  unfold mvL;split
  ·rename_i h
   rw[List.mem_cons,mem_mvL];constructor
   ·rintro(rfl|⟨y,h1,h2⟩)
    ·exact⟨x,List.mem_cons_self,h.1,h.2,rfl⟩
    ·exact⟨y,List.mem_cons_of_mem _ h1,h2⟩
   ·rintro⟨y,h1,h2,h3,rfl⟩
    rcases List.mem_cons.1 h1 with rfl|h1
    ·exact .inl rfl
    ·exact .inr ⟨y,h1,h2,h3,rfl⟩
  ·rename_i h
   rw[mem_mvL];constructor
   ·rintro⟨y,h1,h2⟩;exact⟨y,List.mem_cons_of_mem _ h1,h2⟩
   ·rintro⟨y,h1,h2,h3,rfl⟩
    rcases List.mem_cons.1 h1 with rfl|h1
    ·exact absurd ⟨h2,h3⟩ h
    ·exact⟨y,h1,h2,h3,rfl⟩
theorem mem_wtL {keeps:Int→Bool} {w span a:Int} {e:S73} (d:Nat): ∀ {i:Nat},e∈wtL keeps w span a i d↔ ∃ v:Nat,i≤v∧v<i+d∧a<span∧keeps v=true∧e=wtA w a v:=by
 induction d with
 |zero=>intro i;simp only[wtL,List.not_mem_nil,false_iff];rintro⟨v,h⟩;omega
 |succ d ih=>
  intro i;unfold wtL;split
  ·rename_i h
   rw[List.mem_cons,ih];constructor
   ·rintro(rfl|⟨v,h1,h2,h3⟩)
    ·exact⟨i,by omega,by omega,h.1,h.2,rfl⟩
    ·exact⟨v,by omega,by omega,h3⟩
   ·rintro⟨v,h1,h2,h3,h4,rfl⟩
    by_cases e:v=i
    ·subst e;exact .inl rfl
    ·exact .inr ⟨v,by omega,by omega,h3,h4,rfl⟩
  ·rename_i h
   rw[ih];constructor
   ·rintro⟨v,h1,h2,h3⟩;exact⟨v,by omega,by omega,h3⟩
   ·rintro⟨v,h1,h2,h3,h4,rfl⟩
    by_cases e:v=i
    ·subst e;exact absurd ⟨h3,h4⟩ h
    ·exact⟨v,by omega,by omega,h3,h4,rfl⟩
theorem mem_gridL {use:S73→Bool} {keeps:Int→Bool} {w span:Int} {l:List S73} {e:S73} (d:Nat): ∀ {i:Nat},e∈gridL use keeps w span l i d↔ ∃ a:Nat,i≤a∧a<i+d∧(e∈mvL use w span a l∨e∈wtL keeps w span a 0 w.toNat):=by
 induction d with
 |zero=>intro i;simp only[gridL,List.not_mem_nil,false_iff];rintro⟨v,h⟩;omega
 |succ d ih=>
  intro i;unfold gridL;rw[List.mem_append,List.mem_append,ih];constructor
  ·rintro(h|⟨v,h1,h2,h3⟩)
   ·exact⟨i,by omega,by omega,h⟩
   ·exact⟨v,by omega,by omega,h3⟩
  ·rintro⟨v,h1,h2,h3⟩
   by_cases e:v=i
   ·subst e;exact .inl h3
   ·exact .inr ⟨v,by omega,by omega,h3⟩
theorem mem_fiL {w span s:Int} {e:S73} (d:Nat): ∀ {i:Nat},e∈fiL w span s i d↔ ∃ a:Nat,i≤a∧a<i+d∧e=fiA w span s a:=by
 induction d with
 |zero=>intro i;simp only[fiL,List.not_mem_nil,false_iff];rintro⟨v,h⟩;omega
 |succ d ih=>
  intro i;unfold fiL;rw[List.mem_cons,ih];constructor
  ·rintro(h|⟨v,h1,h2,h3⟩)
   ·exact⟨i,by omega,by omega,h⟩
   ·exact⟨v,by omega,by omega,h3⟩
  ·rintro⟨v,h1,h2,h3⟩
   by_cases e:v=i
   ·subst e;exact .inl h3
   ·exact .inr ⟨v,by omega,by omega,h3⟩
theorem mem_laL {w span t:Int} {e:S73} (d:Nat): ∀ {i:Nat},e∈laL w span t i d↔ ∃ a:Nat,i≤a∧a<i+d∧e=laA w span t a:=by
 induction d with
 |zero=>intro i;simp only[laL,List.not_mem_nil,false_iff];rintro⟨v,h⟩;omega
 |succ d ih=>
  intro i;unfold laL;rw[List.mem_cons,ih];constructor
  ·rintro(h|⟨v,h1,h2,h3⟩)
   ·exact⟨i,by omega,by omega,h⟩
   ·exact⟨v,by omega,by omega,h3⟩
  ·rintro⟨v,h1,h2,h3⟩
   by_cases e:v=i
   ·subst e;exact .inl h3
   ·exact .inr ⟨v,by omega,by omega,h3⟩
theorem mvL_len (use:S73→Bool) (w span a:Int) (l:List S73):(mvL use w span a l).length≤l.length:=by
 induction l with
 |nil=>exact Nat.le_refl _
 |cons x l ih=>unfold mvL;split<;>(try simp only[List.length_cons])<;>omega
theorem wtL_len (keeps:Int→Bool) (w span a:Int) (d:Nat): ∀ i:Nat,(wtL keeps w span a i d).length≤d:=by
 induction d with
 |zero=>intro i;exact Nat.le_refl _
 |succ d ih=>intro i;have:=ih (i+1);unfold wtL;split<;>(try simp only[List.length_cons])<;>omega
theorem gridL_len (use:S73→Bool) (keeps:Int→Bool) (w span:Int) (l:List S73) (d:Nat): ∀ i:Nat,(gridL use keeps w span l i d).length≤d * (l.length+w.toNat):=by
 induction d with
 |zero=>intro i;exact Nat.zero_le _
 |succ d ih=>
  intro i;have h1:=ih (i+1);have h2:=mvL_len use w span i l;have h3:=wtL_len keeps w span i w.toNat 0;unfold gridL;rw[List.length_append,List.length_append,Nat.succ_mul];omega
theorem fiL_len (w span s:Int) (d:Nat): ∀ i:Nat,(fiL w span s i d).length=d:=by
 induction d with
 |zero=>intro i;rfl
 |succ d ih=>intro i;unfold fiL;rw[List.length_cons,ih]
theorem laL_len (w span t:Int) (d:Nat): ∀ i:Nat,(laL w span t i d).length=d:=by
 induction d with
 |zero=>intro i;rfl
 |succ d ih=>intro i;unfold laL;rw[List.length_cons,ih]
theorem at_lt {w span:Int} {a v:Int} (h0:0≤a) (h1:a≤span) (g0:0≤v) (g1:v<w):0≤a * w+v∧a * w+v<(span+1) * w:=by
 have e1:0≤a * w:=Int.mul_nonneg h0 (by omega);have e2:(a+1) * w≤(span+1) * w:=Int.mul_le_mul_of_nonneg_right (by omega) (by omega);rw[Int.add_mul,Int.one_mul] at e2;omega
theorem at_mod {w a v:Int} (g0:0≤v) (g1:v<w):(a * w+v) % w=v:=by
 rw[Int.add_comm,Int.add_mul_emod_self_right,Int.emod_eq_of_lt g0 g1]
theorem at_div {w a v:Int} (g0:0≤v) (g1:v<w):(a * w+v) / w=a:=by
 rw[Int.add_comm,Int.add_mul_ediv_right _ _ (by omega),Int.ediv_eq_zero_of_lt g0 g1,Int.zero_add]
theorem capR_none {R:Int→Bool} : ∀ {l:List S73},(∀ x∈l,R x.f0=true→R x.f1=true)→capR R l=0
 |[],_=>rfl
 |x::l,h=>by
  rw[capR_cons,capR_none (fun y hy=>h y (List.mem_cons_of_mem _ hy))];have h1:=h x List.mem_cons_self;cases h2:R x.f0 with
  |false=>simp
  |true=>rw[h1 h2];simp
theorem capR_pos {R:Int→Bool} : ∀ {l:List S73},(∀ x∈l,0≤x.f2)→0≤capR R l
 |[],_=>Int.le_refl _
 |x::l,h=>by
  have h1:=h x List.mem_cons_self;have h2:=capR_pos (R:=R) (l:=l) (fun y hy=>h y (List.mem_cons_of_mem _ hy));rw[capR_cons];split<;>omega
theorem capR_one {R:Int→Bool} : ∀ {l:List S73},(∀ x∈l,0≤x.f2)→ ∀ x∈l,R x.f0=true→R x.f1=false→x.f2≤capR R l
 |[],_,x,hx,_,_=>by cases hx
 |y::l,h,x,hx,h0,h1=>by
  have h2:=h y List.mem_cons_self;rw[capR_cons];rcases List.mem_cons.1 hx with rfl|hx
  ·have h3:=capR_pos (R:=R) (l:=l) (fun z hz=>h z (List.mem_cons_of_mem _ hz))
   rw[h0,h1,Yx (by decide)];omega
  ·have h3:=capR_one (R:=R) (l:=l) (fun z hz=>h z (List.mem_cons_of_mem _ hz)) x hx h0 h1
   split<;>omega
def mvC (use:S73→Bool) (S:Int→Int→Bool) (span:Int) (a:Nat):List S73→Int
 |[]=>0
 |x::l=>(if (a:Int)+x.f3≤span∧use x=true then takeAt S x a else 0)+mvC use S span a l
def takesU (use:S73→Bool) (S:Int→Int→Bool) (h:Int):List S73→Int
 |[]=>0
 |x::l=>(if use x=true then takesA S h x else 0)+takesU use S h l
theorem capR_mv {use:S73→Bool} {w span:Int} {R:Int→Bool} (a:Nat): ∀ l:List S73,capR R (mvL use w span a l)=mvC use (fun v k=>R (k * w+v)) span a l
 |[]=>rfl
 |x::l=>by
  unfold mvL mvC;split
  ·rename_i h
   rw[capR_cons,capR_mv a l];unfold takeAt mvA;rfl
  ·rw[capR_mv a l,Int.zero_add]
theorem sumTo_split (m:Nat) (g:Nat→Int): ∀ d:Nat,sumTo (m+d) (fun k=>if k<m then g k else 0)=sumTo m g
 |0=>sumTo_congr m fun v hv=>Yx hv
 |d+1=>by
  rw[← Nat.add_assoc,sumTo,sumTo_split m g d,Yy (by omega),Int.add_zero]
theorem mvC_sum {use:S73→Bool} {S:Int→Int→Bool} {span:Int} (h0:0≤span): ∀ l:List S73,(∀ x∈l,0≤x.f3)→sumTo (span.toNat+1) (fun a=>mvC use S span a l)=takesU use S span l
 |[],_=>sumTo_zero _
 |x::l,h=>by
  have hx:=h x List.mem_cons_self;unfold mvC takesU;rw[sumTo_add,mvC_sum h0 l (fun y hy=>h y (List.mem_cons_of_mem _ hy))];congr 1;cases hu:use x with
  |false=>
   rw[sumTo_congr (h:=fun _=>0) _ (fun v _=>Yy (fun g=>by cases g.2)),sumTo_zero];rfl
  |true=>
   rw[Yx rfl];have e:span.toNat+1=times span x+(span.toNat+1 - times span x):=by unfold times;omega
   unfold takesA;rw[e, ← sumTo_split (times span x) (takeAt S x) (span.toNat+1 - times span x)];refine sumTo_congr _ fun v _=> ?_
   by_cases c:v<times span x
   ·rw[Yx c,Yx ⟨by unfold times at c;omega,rfl⟩]
   ·rw[Yy c,Yy (fun g=>c (by unfold times;omega))]
theorem capR_grid {use:S73→Bool} {keeps:Int→Bool} {w span:Int} {l:List S73} {R:Int→Bool} (hw: ∀ a v:Nat,(a:Int)<span→(v:Int)<w→keeps v=true→R (a * w+v)=true→R ((a+1:Int) * w+v)=true) (d:Nat): ∀ i:Nat,
  capR R (gridL use keeps w span l i d)=sumTo d (fun k=>mvC use (fun v k=>R (k * w+v)) span (i+k) l):=by
 induction d with
 |zero=>intro i;rfl
 |succ d ih=>
  intro i;have e1:capR R (wtL keeps w span i 0 w.toNat)=0:=by
   refine capR_none fun x hx=> ?_
   obtain⟨v,h1,h2,h3,h4,rfl⟩:=(mem_wtL _).1 hx;exact hw i v h3 (by omega) h4
  have e2:sumTo (d+1) (fun k=>mvC use (fun v k=>R (k * w+v)) span (i+k) l)=mvC use (fun v k=>R (k * w+v)) span i l+sumTo d (fun k=>mvC use (fun v k=>R (k * w+v)) span (i+1+k) l):=by
   clear ih e1
   induction d with
   |zero=>simp[sumTo]
   |succ d ih=>
    rw[sumTo,ih];simp only[sumTo];rw[show i+(d+1)=i+1+d by omega];omega
  unfold gridL;rw[capR_app,capR_app,capR_mv,e1,ih (i+1),e2];omega
theorem capR_base {use:S73→Bool} {keeps:Int→Bool} {w span:Int} {l:List S73} {R:Int→Bool} (h0:0≤span) (hl: ∀ x∈l,0≤x.f3) (hw: ∀ a v:Nat,(a:Int)<span→(v:Int)<w→keeps v=true→R (a * w+v)=true→R ((a+1:Int) * w+v)=true):
  capR R (baseG use keeps w l span)=takesU use (fun v k=>R (k * w+v)) span l:=by
 unfold baseG;rw[capR_grid hw, ← mvC_sum h0 l hl];exact sumTo_congr _ fun v _=>by rw[Nat.zero_add]
theorem takesU_cut {S:Int→Int→Bool} {s t h:Int} (hs: ∀ k:Int,0≤k→k≤h→S s k=true) (ht: ∀ k:Int,0≤k→k≤h→S t k=false): ∀ {l:List S73},(∀ x∈l,0≤x.f3)→takesU (useO s t) S h l=takesL S h l
 |[],_=>rfl
 |x::l,hl=>by
  have hx:=hl x List.mem_cons_self;unfold takesU takesL;rw[takesU_cut hs ht (fun y hy=>hl y (List.mem_cons_of_mem _ hy))];congr 1;split
  ·rfl
  ·rename_i h1
   unfold takesA;rw[sumTo_congr (h:=fun _=>0) _ (fun v hv=> ?_),sumTo_zero];unfold times at hv;unfold takeAt;refine Yy fun g=> ?_
   rw[Bool.and_eq_true,Bool.not_eq_true'] at g;unfold useO at h1;rw[Bool.and_eq_true,decide_eq_true_eq,decide_eq_true_eq,Decidable.not_and_iff_not_or_not,Decidable.not_not,Decidable.not_not] at h1;rcases h1 with h1|h1
   ·rw[h1,hs _ (by omega) (by omega)] at g;cases g.2
   ·rw[h1,ht _ (by omega) (by omega)] at g;cases g.1
end H
namespace Q
open P
open H
def bitsAt (bits:List Int) (v:Int):Int:=if v<(bits.length:Int) then rd bits v else 0
def inM (hold:Bool) (bits:List Int) (s t span v a:Int):Bool:=
 decide (v=s) || !decide (v=t) && (if hold=true then decide (Int.tmod (bitsAt bits v) (span+2)≤a) else decide (Go.bits .and .u16 (shr .u16 (bitsAt bits v) a) 1=1))
structure MadeAt (N:Int) (hold:Bool) (bits:List Int) (s t span:Int) (a v:Int) (x:List S53):Prop where
 has: ∀ v' a',hasL x v' a'=true↔((0≤v'∧v'<N∧0≤a'∧(a'<a∨a'=a∧v'<v))∧inM hold bits s t span v' a'=true)
 ok: ∀ y∈x,slotOkB N span y=true
 len:(x.length:Int)≤a * N+v
theorem hasL_snoc (x:List S53) (s:S53) (v a:Int):hasL (x ++ [s]) v a=(hasL x v a || (decide (s.f0=v) && decide (s.f1=a))):=by
 simp[hasL]
theorem MadeAt.add {N:Int} {hold:Bool} {bits:List Int} {s t span a v:Int} {x:List S53} (h:MadeAt N hold bits s t span a v x) (hv0:0≤v) (hv:v<N) (ha0:0≤a) (ha:a≤span) (hin:inM hold bits s t span v a=true):
  MadeAt N hold bits s t span a (v+1) (x ++ [(⟨v,a⟩:S53)]):=by
 refine⟨fun v' a'=> ?_,fun y hy=> ?_,?_⟩
 ·rw[hasL_snoc,Bool.or_eq_true,h.has,Bool.and_eq_true,decide_eq_true_eq,decide_eq_true_eq]
  show _∨(v=v'∧a=a')↔_;constructor
  ·rintro(⟨h1,h2⟩|⟨rfl,rfl⟩)
   ·exact⟨by omega,h2⟩
   ·exact⟨by omega,hin⟩
  ·rintro⟨h1,h2⟩
   by_cases e:v=v'∧a=a'
   ·exact Or.inr e
   ·exact Or.inl ⟨by omega,h2⟩
 ·rcases List.mem_append.1 hy with hy|hy
  ·exact h.ok y hy
  ·rw[List.mem_singleton.1 hy]
   unfold slotOkB;simp;omega
 ·have:=h.len
  rw[List.length_append,List.length_singleton];omega
theorem MadeAt.skip {N:Int} {hold:Bool} {bits:List Int} {s t span a v:Int} {x:List S53} (h:MadeAt N hold bits s t span a v x) (hin:inM hold bits s t span v a=false):MadeAt N hold bits s t span a (v+1) x:=by
 refine⟨fun v' a'=> ?_,h.ok,by have:=h.len;omega⟩;rw[h.has];constructor
 ·rintro⟨h1,h2⟩
  exact⟨by omega,h2⟩
 ·rintro⟨h1,h2⟩
  refine⟨?_,h2⟩;by_cases e:v'=v∧a'=a
  ·obtain⟨rfl,rfl⟩:=e
   rw[hin] at h2;cases h2
  ·omega
theorem MadeAt.row {N:Int} {hold:Bool} {bits:List Int} {s t span a:Int} {x:List S53} (h:MadeAt N hold bits s t span a N x):MadeAt N hold bits s t span (a+1) 0 x:=by
 refine⟨fun v' a'=> ?_,h.ok,by have:=h.len;rw[Int.add_mul];omega⟩;rw[h.has];constructor
 ·rintro⟨h1,h2⟩;exact⟨by omega,h2⟩
 ·rintro⟨h1,h2⟩;exact⟨by omega,h2⟩
theorem made_j2 (N:Int) (hold:Bool) (l:List S73) (s t span:Int) (bits:List Int) (hb: ∀ b∈bits,U16 b) (h0:2≤N) (h1:N≤5) (hs0:0≤span) (hs1:span≤7) (x:List S53) (hx:(x.length:Int)≤100) (a v:Int) (ha0:0≤a) (ha1:a≤span) (hv0:0≤v) (hv1:v<N) (hne:s≠t) (R:List S53)
  (next:Ev (fun k=>ebbtidelaw18_Made.l1 k s t span bits (if inM hold bits s t span v a=true then x ++ [(⟨v,a⟩:S53)] else x) a (v+1) N hold l) R):
  Ev (fun k=>ebbtidelaw18_Made.j2 k s t span bits x a v (bitsAt bits v) N hold l) R:=by
 have hbv:0≤bitsAt bits v∧bitsAt bits v≤65535:=by
  unfold bitsAt;split
  ·exact u16_in (hb _ (getD_mem (by omega)))
  ·omega
 have hw:wrap64 (v+1)=v+1:=wrap_id (by omega) (by omega);have hw2:wrap64 (span+2)=span+2:=wrap_id (by omega) (by omega);have hw3:wrap64 (bitsAt bits v)=bitsAt bits v:=wrap_id (by omega) (by omega);refine Ev.succ ?_;simp only[ebbtidelaw18_Made.j2];rw[hw,hw2,hw3];refine Ev.pos ha0 ?_;unfold inM at next
 cases hold with
 |true=>
  refine Ev.pos (by trivial) (Ev.neg (by omega) ?_);refine Ev.ite (fun g=> ?_) (fun g=> ?_)
  ·refine Ev.pos (by omega) ?_
   rw[Yv g,Bool.true_or,Yx rfl] at next
   exact next
  ·rw[Yw g,Bool.false_or] at next
   refine Ev.ite (fun g2=> ?_) (fun g2=> ?_)
   ·rw[Yv g2,Bool.not_true,Bool.false_and,Yy (by decide)] at next
    exact next
   ·rw[Yw g2,Bool.not_false,Bool.true_and,Yx rfl] at next
    refine Ev.ite (fun g3=> ?_) (fun g3=> ?_)
    ·refine Ev.pos (by omega) ?_
     rw[Yv g3,Yx rfl] at next
     exact next
    ·rw[Yw g3,Yy (by decide)] at next
     exact next
 |false=>
  refine Ev.neg (by decide) ?_;refine Ev.ite (fun g=> ?_) (fun g=> ?_)
  ·refine Ev.pos (by omega) ?_
   rw[Yv g,Bool.true_or,Yx rfl] at next
   exact next
  ·rw[Yw g,Bool.false_or] at next
   refine Ev.ite (fun g2=> ?_) (fun g2=> ?_)
   ·rw[Yv g2,Bool.not_true,Bool.false_and,Yy (by decide)] at next
    exact next
   ·rw[Yw g2,Bool.not_false,Bool.true_and,Yy (by decide: ¬ (false=true))] at next
    refine Ev.ite (fun g3=> ?_) (fun g3=> ?_)
    ·refine Ev.pos (by omega) ?_
     rw[Yv g3,Yx rfl] at next
     exact next
    ·rw[Yw g3,Yy (by decide)] at next
     exact next
theorem made_l1 (N:Int) (hold:Bool) (l:List S73) (s t span:Int) (bits:List Int) (hb: ∀ b∈bits,U16 b) (h0:2≤N) (h1:N≤5) (hs0:0≤span) (hs1:span≤7) (hne:s≠t) (a:Int) (ha0:0≤a) (ha1:a≤span)
  (next: ∀ x,MadeAt N hold bits s t span (a+1) 0 x→ ∃ R,Ev (fun k=>ebbtidelaw18_Made.l0 k s t span bits x (a+1) N hold l) R∧MadeAt N hold bits s t span (span+1) 0 R) (d:Nat):
  ∀ (v:Int) (x:List S53),0≤v→v+d=N→MadeAt N hold bits s t span a v x→
   ∃ R,Ev (fun k=>ebbtidelaw18_Made.l1 k s t span bits x a v N hold l) R∧MadeAt N hold bits s t span (span+1) 0 R:=by
 induction d with
 |zero=>
  intro v x hv0 hv hm;obtain rfl:v=N:=by omega
  obtain⟨R,hR,hp⟩:=next x hm.row
  refine⟨R,?_,hp⟩;refine Ev.succ ?_;simp only[ebbtidelaw18_Made.l1];refine Ev.neg (by omega) ?_;rw[wrap_id (x:=a+1) (by omega) (by omega)];exact hR
 |succ d ih=>
  intro v x hv0 hv hm;have hlen:=hm.len;have hmul:a * N≤7 * 5:=Int.mul_le_mul (by omega) (by omega) (by omega) (by omega);have hm':MadeAt N hold bits s t span a (v+1) (if inM hold bits s t span v a=true then x ++ [(⟨v,a⟩:S53)] else x):=by
   split
   ·exact hm.add hv0 (by omega) ha0 ha1 (by assumption)
   ·exact hm.skip (Bool.eq_false_iff.2 (by assumption))
  obtain⟨R,hR,hp⟩:=ih (v+1) _ (by omega) (by omega) hm';refine⟨R,?_,hp⟩;have hj:=made_j2 N hold l s t span bits hb h0 h1 hs0 hs1 x (by omega) a v ha0 ha1 hv0 (by omega) hne R hR;refine Ev.succ ?_;simp only[ebbtidelaw18_Made.l1];refine Ev.pos (by omega) ?_;unfold bitsAt at hj;refine Ev.ite (fun g=> ?_) (fun g=> ?_)
  ·rw[Yx g] at hj
   exact Ev.pos hv0 hj
  ·rw[Yy g] at hj
   exact hj
theorem made_l0 (N:Int) (hold:Bool) (l:List S73) (s t span:Int) (bits:List Int) (hb: ∀ b∈bits,U16 b) (h0:2≤N) (h1:N≤5) (hs0:0≤span) (hs1:span≤7) (hne:s≠t) (d:Nat):
  ∀ (a:Int) (x:List S53),0≤a→a+d=span+1→MadeAt N hold bits s t span a 0 x→
   ∃ R,Ev (fun k=>ebbtidelaw18_Made.l0 k s t span bits x a N hold l) R∧MadeAt N hold bits s t span (span+1) 0 R:=by
 induction d with
 |zero=>
  intro a x ha0 ha hm;obtain rfl:a=span+1:=by omega
  refine⟨x,?_,hm⟩;refine Ev.succ ?_;simp only[ebbtidelaw18_Made.l0];exact Ev.neg (by omega) (Ev.now _)
 |succ d ih=>
  intro a x ha0 ha hm;obtain⟨R,hR,hp⟩:=made_l1 N hold l s t span bits hb h0 h1 hs0 hs1 hne a ha0 (by omega) (fun y hy=>ih (a+1) y (by omega) (by omega) hy) N.toNat 0 x (by omega) (by omega) hm;refine⟨R,?_,hp⟩;refine Ev.succ ?_;simp only[ebbtidelaw18_Made.l0];exact Ev.pos (by omega) hR
structure CutOf (N:Int) (hold:Bool) (s t span:Int) (x:List S53):Prop where
 ok:x.all (slotOkB N span)=true
 ends:endsN (hasL x) s t (span.toNat+1)=true
 rises:hold=true→risesAll (hasL x) span.toNat N.toNat=true
 len:x.length≤100
 pos:0<x.length
theorem endsN_mk {S:Int→Int→Bool} {s t:Int} : ∀ m:Nat,(∀ k:Nat,k<m→S s k=true∧S t k=false)→endsN S s t m=true
 |0,_=>rfl
 |m+1,h=>by
  unfold endsN;rw[endsN_mk m (fun k hk=>h k (by omega)),(h m (by omega)).1,(h m (by omega)).2];rfl
theorem risesN_mk {S:Int→Int→Bool} {v:Int} : ∀ m:Nat,(∀ k:Nat,k<m→S v k=true→S v (k+1)=true)→risesN S v m=true
 |0,_=>rfl
 |m+1,h=>by
  unfold risesN;rw[risesN_mk m (fun k hk=>h k (by omega)),Bool.true_and];cases e:S v m with
  |false=>rfl
  |true=>rw[h m (by omega) e];rfl
theorem risesAll_mk {S:Int→Int→Bool} {h:Nat} : ∀ m:Nat,(∀ v:Nat,v<m→risesN S v h=true)→risesAll S h m=true
 |0,_=>rfl
 |m+1,hv=>by
  unfold risesAll;rw[risesAll_mk m (fun v hm=>hv v (by omega)),hv m (by omega)];rfl
theorem made_ev (N:Int) (hold:Bool) (l:List S73) (s t span:Int) (bits:List Int) (hb: ∀ b∈bits,U16 b) (h0:2≤N) (h1:N≤5) (hs0:0≤span) (hs1:span≤7) (he:EndsOk N s t):
  ∃ x,Ev (fun k=>ebbtidelaw18_Made.f k N hold l s t span bits) x∧CutOf N hold s t span x∧MadeAt N hold bits s t span (span+1) 0 x:=by
 have e1:=he.s0;have e2:=he.sn;have e3:=he.t0;have e4:=he.tn;have e5:=he.ne;obtain⟨x,hx,hm⟩:=made_l0 N hold l s t span bits hb h0 h1 hs0 hs1 e5 (span.toNat+1) 0 [] (by omega) (by omega) ⟨fun v a=>by
  simp[hasL];omega,by simp,by simp⟩
 refine⟨x,hx,⟨List.all_eq_true.2 hm.ok,?_,fun hh=> ?_,?_,?_⟩,hm⟩
 ·refine endsN_mk _ fun k hk=>⟨?_,?_⟩
  ·rw[hm.has]
   exact⟨by omega,by simp[inM]⟩
  ·cases e:hasL x t k with
   |false=>rfl
   |true=>
    have:=((hm.has t k).1 e).2;simp[inM] at this;omega
 ·refine risesAll_mk _ fun v hv=>risesN_mk _ fun k hk hS=> ?_
  obtain⟨g1,g2⟩:=(hm.has v k).1 hS;refine(hm.has v (k+1)).2 ⟨by omega,?_⟩;unfold inM at g2 ⊢;rw[hh] at g2 ⊢;simp at g2 ⊢;omega
 ·have:=hm.len
  have hmul:(span+1) * N≤8 * 5:=Int.mul_le_mul (by omega) (by omega) (by omega) (by omega);omega
 ·cases x with
  |nil=>
   have:=(hm.has s 0).2 ⟨by omega,by simp[inM]⟩;simp[hasL] at this
  |cons y x=>simp
end Q
namespace Q
open P
theorem awake18_at:ebbtidelaw18_awake.f 40=some true:=by decide +kernel
theorem awake18_ev:Ev (fun k=>ebbtidelaw18_awake.f k) true:=Ev.of ebbtidelaw18_awake.mono awake18_at
end Q
namespace Q
open P
open H
theorem has_mem (x:List S53) (v a:Int):hasL x v a=true↔ ∃ s∈x,s.f0=v∧s.f1=a:=by
 unfold hasL;rw[List.any_eq_true];constructor
 ·rintro⟨s,hs,h⟩;rw[Bool.and_eq_true,decide_eq_true_eq,decide_eq_true_eq] at h;exact⟨s,hs,h⟩
 ·rintro⟨s,hs,h⟩;exact⟨s,hs,by rw[Bool.and_eq_true,decide_eq_true_eq,decide_eq_true_eq];exact h⟩
theorem ends_iff {S:Int→Int→Bool} {s t:Int} : ∀ m:Nat,endsN S s t m=true↔ ∀ k:Nat,k<m→S s k=true∧S t k=false
 |0=>⟨fun _ k hk=>absurd hk (Nat.not_lt_zero _),fun _=>rfl⟩
 |m+1=>by
  unfold endsN;rw[Bool.and_eq_true,ends_iff m,Bool.and_eq_true,Bool.not_eq_true'];constructor
  ·rintro⟨h1,h2⟩ k hk
   by_cases e:k=m
   ·subst e;exact h2
   ·exact h1 k (by omega)
  ·intro h
   exact⟨fun k hk=>h k (by omega),h m (by omega)⟩
theorem rises_iff {S:Int→Int→Bool} {v:Int} : ∀ m:Nat,risesN S v m=true↔ ∀ k:Nat,k<m→S v k=true→S v (k+1)=true
 |0=>⟨fun _ k hk=>absurd hk (Nat.not_lt_zero _),fun _=>rfl⟩
 |m+1=>by
  unfold risesN;rw[Bool.and_eq_true,rises_iff m];constructor
  ·rintro⟨h1,h2⟩ k hk hS
   by_cases e:k=m
   ·subst e
    rw[hS] at h2;cases h3:S v (k+1) with
    |true=>rfl
    |false=>rw[h3] at h2;simp at h2
   ·exact h1 k (by omega) hS
  ·intro h
   refine⟨fun k hk=>h k (by omega),?_⟩;cases h3:S v m with
   |false=>rfl
   |true=>rw[h m (by omega) h3];rfl
theorem risesAll_iff {S:Int→Int→Bool} {h:Nat} : ∀ m:Nat,risesAll S h m=true↔ ∀ v:Nat,v<m→risesN S v h=true
 |0=>⟨fun _ k hk=>absurd hk (Nat.not_lt_zero _),fun _=>rfl⟩
 |m+1=>by
  unfold risesAll;rw[Bool.and_eq_true,risesAll_iff m];constructor
  ·rintro⟨h1,h2⟩ k hk
   by_cases e:k=m
   ·subst e;exact h2
   ·exact h1 k (by omega)
  ·intro h
   exact⟨fun k hk=>h k (by omega),h m (by omega)⟩
theorem cut_res {N:Int} {hold:Bool} {l:List S73} {s t span:Int} {z:List S53} (hn:NetOk N l) (he:EndsOk N s t) (h0:0≤span) (h1:span≤1024) (ok:z.all (slotOkB N span)=true) (he2:endsN (hasL z) s t (span.toNat+1)=true) (hr:hold=true→risesAll (hasL z) span.toNat N.toNat=true):
  tcRes N hold l s t span z=(takesL (hasL z) span l,0):=by
 unfold tcRes;rw[Yx (spanErr_mk hn he h0 h1),Yx ok,Yx he2,Yy (fun⟨a,b⟩=>b (hr a))]
end Q
namespace H
open P Q
structure GridOk (w:Nat) (l:List S73) (s t span:Nat):Prop where
 w0:2≤w
 w1:w≤5
 len:l.length≤10
 s1:s<w
 t1:t<w
 st:s≠t
 span:span≤7
 arcs: ∀ x∈l,ArcOk w x∧x.f2≤5∧x.f3≤3
theorem GridOk.low {w:Nat} {l:List S73} {s t span:Nat} (h:GridOk w l s t span): ∀ x∈l,0≤x.f3:=fun x hx=>(h.arcs x hx).1.f3
theorem GridOk.nodes {w:Nat} {l:List S73} {s t span:Nat} (h:GridOk w l s t span):(span+1) * w+2≤42:=by
 have h1:=h.w1;have h2:=h.span;have:(span+1) * w≤8 * 5:=Nat.mul_le_mul (by omega) h1;omega
theorem GridOk.sm {w:Nat} {l:List S73} {s t span:Nat} (h:GridOk w l s t span): ∀ x∈l,ArcSm x:=fun x hx=>arc_sm (h.arcs x hx).1 (by have:=h.w1;omega)
theorem at_nat {w span:Nat} {a v:Int} (h0:0≤a) (h1:a≤span) (g0:0≤v) (g1:v<w):0≤a * w+v∧a * w+v<((span+1) * w:Nat):=by
 have h:=at_lt (span:=(span:Int)) (w:=(w:Int)) h0 h1 g0 g1;have e:(((span+1) * w:Nat):Int)=((span:Int)+1) * w:=by push_cast;rfl
 rw[e];exact h
theorem endless_in:(0:Int)≤1099511627776∧(1099511627776:Int)≤1099511627776:=by decide
theorem base_arc {use:S73→Bool} {keeps:Int→Bool} {w:Nat} {l:List S73} {s t span:Nat} (h:GridOk w l s t span) {e:S73} (he:e∈baseG use keeps w l span):
  (0≤e.f0∧e.f0<((span+1) * w:Nat))∧(0≤e.f1∧e.f1<((span+1) * w:Nat))∧(0≤e.f2∧e.f2≤1099511627776)∧e.f3=0:=by
 obtain⟨a,h1,h2,h3⟩:=(mem_gridL _).1 he;rw[Int.toNat_natCast] at h2;rcases h3 with h3|h3
 ·obtain⟨x,g1,g2,g3,rfl⟩:=mem_mvL.1 h3
  obtain⟨b1,b2,b3⟩:=h.arcs x g1;have c0:=b1.f0;have c1:=b1.h0;have c2:=b1.f1;have c3:=b1.h1;have c4:=b1.f2;have c5:=b1.f3;exact⟨at_nat (by omega) (by omega) c0 c1,at_nat (by omega) g2 c2 c3,⟨c4,Int.le_trans b2 (by decide)⟩,rfl⟩
 ·obtain⟨v,g1,g2,g3,g4,rfl⟩:=(mem_wtL _).1 h3
  rw[Int.toNat_natCast] at g2;exact⟨at_nat (by omega) (by omega) (by omega) (by omega),at_nat (by omega) (by omega) (by omega) (by omega),endless_in,rfl⟩
theorem ends_of_arcs {l:List S73} {n:Nat} (h: ∀ e∈l,(0≤e.f0∧e.f0<n)∧(0≤e.f1∧e.f1<n)):ends l n:=by
 intro i hi;have hm:rd_T73 l (i:Int)∈l:=by rw[rdArc_nat];exact getD_mem hi
 exact h _ hm
theorem right_of_arcs {l:List S73} {n:Nat} (h0:0<n) (h1:n≤50) (hl:l.length≤200) (h: ∀ e∈l,(0≤e.f0∧e.f0<n)∧(0≤e.f1∧e.f1<n)∧(0≤e.f2∧e.f2≤1099511627776)∧e.f3=0):Right l (List.replicate l.length 0) n:=by
 refine⟨h0,h1,hl,by simp,ends_of_arcs fun e he=>⟨(h e he).1,(h e he).2.1⟩,fun i hi=> ?_⟩;have hm:rd_T73 l (i:Int)∈l:=by rw[rdArc_nat];exact getD_mem hi
 obtain⟨_,_,g1,g2⟩:=h _ hm;rw[List.getD_eq_getElem?_getD,List.getElem?_replicate,Yx hi];show _∧_∧(0:Int)≤0∧(0:Int)≤_∧_;exact⟨by omega,by omega,Int.le_refl _,g1.1,g1.2⟩
theorem base_len {use:S73→Bool} {keeps:Int→Bool} {w:Nat} {l:List S73} {s t span:Nat} (h:GridOk w l s t span):(baseG use keeps w l span).length≤120:=by
 have h1:=gridL_len use keeps w span l (span+1) 0;have h2:=h.w1;have h3:=h.len;have h4:=h.span;have:(span+1) * (l.length+w)≤8 * 15:=Nat.mul_le_mul (by omega) (by omega);unfold baseG;rw[Int.toNat_natCast] at h1 ⊢;omega
theorem big_arc {hold:Bool} {w:Nat} {l:List S73} {s t span:Nat} (h:GridOk w l s t span) {e:S73} (he:e∈bigG w hold l s t span):
  (0≤e.f0∧e.f0<((span+1) * w+2:Nat))∧(0≤e.f1∧e.f1<((span+1) * w+2:Nat))∧(0≤e.f2∧e.f2≤1099511627776)∧e.f3=0:=by
 have e0:(((span+1) * w:Nat):Int)=((span:Int)+1) * w:=by push_cast;rfl
 have e1:(((span+1) * w+2:Nat):Int)=((span:Int)+1) * w+2:=by push_cast;rfl
 have hs:=h.s1;have ht:=h.t1;unfold bigG at he;rw[List.mem_append,List.mem_append] at he;rcases he with he|he|he
 ·obtain⟨g1,g2,g3⟩:=base_arc h he
  exact⟨by omega,by omega,g3⟩
 ·obtain⟨a,g1,g2,rfl⟩:=(mem_fiL _).1 he
  rw[Int.toNat_natCast] at g2;have g3:=at_nat (w:=w) (span:=span) (a:=a) (v:=s) (by omega) (by omega) (by omega) (by omega);unfold fiA;exact⟨by simp only;omega,by simp only;omega,endless_in,rfl⟩
 ·obtain⟨a,g1,g2,rfl⟩:=(mem_laL _).1 he
  rw[Int.toNat_natCast] at g2;have g3:=at_nat (w:=w) (span:=span) (a:=a) (v:=t) (by omega) (by omega) (by omega) (by omega);unfold laA;exact⟨by simp only;omega,by simp only;omega,endless_in,rfl⟩
theorem big_len {hold:Bool} {w:Nat} {l:List S73} {s t span:Nat} (h:GridOk w l s t span):(bigG w hold l s t span).length≤136:=by
 have h1:=base_len (use:=useO s t) (keeps:=keepsO hold s t) h;have h2:=h.span;unfold bigG;rw[List.length_append,List.length_append,fiL_len,laL_len,Int.toNat_natCast];omega
theorem big_right {hold:Bool} {w:Nat} {l:List S73} {s t span:Nat} (h:GridOk w l s t span):Right (bigG w hold l s t span) (List.replicate (bigG w hold l s t span).length 0) ((span+1) * w+2):=by
 have h1:=h.nodes;exact right_of_arcs (by omega) (by omega) (by have:=big_len (hold:=hold) h;omega) fun e he=>big_arc h he
theorem cap_big {hold:Bool} {w:Nat} {l:List S73} {s t span:Nat} (h:GridOk w l s t span) {R:Int→Bool}
  (hs: ∀ k:Int,0≤k→k≤span→R (k * w+s)=true) (ht: ∀ k:Int,0≤k→k≤span→R (k * w+t)=false)
  (hw:hold=true→ ∀ v k:Nat,v<w→k<span→R (k * w+v)=true→R ((k+1:Int) * w+v)=true):
  capR R (bigG w hold l s t span)=takesL (fun v k=>R (k * w+v)) span l:=by
 unfold bigG;rw[capR_app,capR_app,capR_base (by omega) h.low,takesU_cut hs ht h.low,capR_none,capR_none]
 ·omega
 ·intro x hx
  obtain⟨a,g1,g2,rfl⟩:=(mem_laL _).1 hx;rw[Int.toNat_natCast] at g2;intro g3;have g3:R ((a:Int) * w+t)=true:=g3;rw[ht a (by omega) (by omega)] at g3;cases g3
 ·intro x hx
  obtain⟨a,g1,g2,rfl⟩:=(mem_fiL _).1 hx;rw[Int.toNat_natCast] at g2;intro _;exact hs a (by omega) (by omega)
 ·intro a v ha hv hk
  unfold keepsO at hk;rw[Bool.and_eq_true,Bool.and_eq_true] at hk;exact hw hk.1.1 v a (by omega) (by omega)
theorem cut_big {hold:Bool} {w:Nat} {l:List S73} {s t span:Nat} (h:GridOk w l s t span) {R:Int→Bool} (h0:R ((span+1) * w)=true) (h1:R ((span+1) * w+1)=false) (hc:capR R (bigG w hold l s t span)<1099511627776):
  (∀ k:Int,0≤k→k≤span→R (k * w+s)=true)∧(∀ k:Int,0≤k→k≤span→R (k * w+t)=false)∧
  (hold=true→ ∀ v k:Nat,v<w→k<span→R (k * w+v)=true→R ((k+1:Int) * w+v)=true):=by
 have hp: ∀ x∈bigG w hold l s t span,0≤x.f2:=fun x hx=>(big_arc h hx).2.2.1.1
 have hno: ∀ x∈bigG w hold l s t span,x.f2=1099511627776→R x.f0=true→R x.f1=true:=by
  intro x hx h2 h3;cases h4:R x.f1 with
  |true=>rfl
  |false=>have:=capR_one hp x hx h3 h4;omega
 have hs: ∀ k:Int,0≤k→k≤span→R (k * w+s)=true:=by
  intro k k0 k1;obtain⟨a,rfl⟩:=Int.eq_ofNat_of_zero_le k0;refine hno (fiA w span s a) ?_ rfl h0;unfold bigG;exact List.mem_append_right _ (List.mem_append_left _ ((mem_fiL _).2 ⟨a,by omega,by rw[Int.toNat_natCast];omega,rfl⟩))
 have ht: ∀ k:Int,0≤k→k≤span→R (k * w+t)=false:=by
  intro k k0 k1;obtain⟨a,rfl⟩:=Int.eq_ofNat_of_zero_le k0;have hm:laA w span t a∈bigG w hold l s t span:=by
   unfold bigG;exact List.mem_append_right _ (List.mem_append_right _ ((mem_laL _).2 ⟨a,by omega,by rw[Int.toNat_natCast];omega,rfl⟩))
  cases h4:R ((a:Int) * w+t) with
  |false=>rfl
  |true=>
   have h5:R ((span+1) * w+1)=true:=hno (laA w span t a) hm rfl h4;rw[h1] at h5;cases h5
 refine⟨hs,ht,fun hh v k hv hk hR=> ?_⟩;by_cases e1:v=s
 ·subst e1;exact hs _ (by omega) (by omega)
 by_cases e2:v=t
 ·subst e2
  rw[ht _ (by omega) (by omega)] at hR;cases hR
 refine hno (wtA w k v) ?_ rfl hR;unfold bigG;refine List.mem_append_left _ ((mem_gridL _).2 ⟨k,by omega,by rw[Int.toNat_natCast];omega, .inr ((mem_wtL _).2 ⟨v,by omega,by rw[Int.toNat_natCast];omega,by omega,?_,rfl⟩)⟩);unfold keepsO;rw[hh,Yv (by omega),Yv (by omega)];rfl
def sideG (w span:Int) (S:Int→Int→Bool) (i:Int):Bool:=if i<(span+1) * w then S (i % w) (i / w) else decide (i=(span+1) * w)
theorem sideG_at {w span:Nat} {S:Int→Int→Bool} {v k:Int} (k0:0≤k) (k1:k≤span) (v0:0≤v) (v1:v<w):sideG w span S (k * w+v)=S v k:=by
 have h:=at_lt (span:=(span:Int)) (w:=(w:Int)) k0 k1 v0 v1;unfold sideG;rw[Yx h.2,at_mod v0 v1,at_div v0 v1]
theorem sideG_first {w span:Nat} {S:Int→Int→Bool} :sideG w span S ((span+1) * w)=true:=by
 unfold sideG;rw[Yy (by omega),Yv rfl]
theorem sideG_last {w span:Nat} {S:Int→Int→Bool} :sideG w span S ((span+1) * w+1)=false:=by
 unfold sideG;rw[Yy (by omega),Yw (by omega)]
structure SlotCut (hold:Bool) (w s t span:Nat) (S:Int→Int→Bool):Prop where
 src: ∀ k:Int,0≤k→k≤span→S s k=true
 snk: ∀ k:Int,0≤k→k≤span→S t k=false
 up:hold=true→ ∀ v k:Nat,v<w→k<span→S v k=true→S v (k+1:Int)=true
theorem takesL_congr {S T:Int→Int→Bool} {n h:Int} (hh:0≤h) (e: ∀ v k:Int,0≤v→v<n→0≤k→k≤h→S v k=T v k): ∀ {l:List S73},(∀ x∈l,ArcOk n x)→takesL S h l=takesL T h l
 |[],_=>rfl
 |x::l,hl=>by
  have hx:=hl x List.mem_cons_self;have x1:=hx.f0;have x2:=hx.h0;have x3:=hx.f1;have x4:=hx.h1;have x5:=hx.f3;unfold takesL;rw[takesL_congr hh e (fun y hy=>hl y (List.mem_cons_of_mem _ hy))];congr 1;unfold takesA;refine sumTo_congr _ fun v hv=> ?_
  unfold times at hv;unfold takeAt;rw[e x.f0 v x1 x2 (by omega) (by omega),e x.f1 _ x3 x4 (by omega) (by omega)]
theorem cap_side {hold:Bool} {w:Nat} {l:List S73} {s t span:Nat} (h:GridOk w l s t span) {S:Int→Int→Bool} (hS:SlotCut hold w s t span S):capR (sideG w span S) (bigG w hold l s t span)=takesL S span l:=by
 have hs:=h.s1;have ht:=h.t1;rw[cap_big h,takesL_congr (n:=w) (by omega) (fun v k v0 v1 k0 k1=>sideG_at k0 k1 v0 v1) (fun x hx=>(h.arcs x hx).1)]
 ·intro k k0 k1;rw[sideG_at k0 k1 (by omega) (by omega)];exact hS.src k k0 k1
 ·intro k k0 k1;rw[sideG_at k0 k1 (by omega) (by omega)];exact hS.snk k k0 k1
 ·intro hh v k hv hk
  rw[sideG_at (by omega) (by omega) (by omega) (by omega),sideG_at (by omega) (by omega) (by omega) (by omega)];exact hS.up hh v k hv hk
theorem src_cut {hold:Bool} {w s t span:Nat} (hst:s≠t):SlotCut hold w s t span (fun v _=>decide (v=(s:Int))):=
 ⟨fun _ _ _=>Yv rfl,fun _ _ _=>Yw (by omega),fun _ _ _ _ _ h=>h⟩
theorem takes_top {w:Nat} {l:List S73} {s t span:Nat} (h:GridOk w l s t span) (S:Int→Int→Bool):0≤takesL S span l∧takesL S span l≤20982005760:=by
 have h1:=takesL_small S (h:=span) (by have:=h.span;omega) l h.sm;have h2:=h.len;omega
theorem big_max {hold:Bool} {w:Nat} {l:List S73} {s t span:Nat} (h:GridOk w l s t span) {F:List Int} (hF:MaxF (bigG w hold l s t span) F ((span+1) * w+2) ((span+1) * w) ((span+1) * w+1)):
  (∀ S,SlotCut hold w s t span S→bal (bigG w hold l s t span) F (((span+1) * w:Nat):Int)≤takesL S span l)∧
  SlotCut hold w s t span (fun v k=>sideP (bigG w hold l s t span) F ((span+1) * w+2) ((span+1) * w) (k * w+v))∧
  bal (bigG w hold l s t span) F (((span+1) * w:Nat):Int)=takesL (fun v k=>sideP (bigG w hold l s t span) F ((span+1) * w+2) ((span+1) * w) (k * w+v)) span l:=by
 have e0:(((span+1) * w:Nat):Int)=((span:Int)+1) * w:=by push_cast;rfl
 have e1:(((span+1) * w+1:Nat):Int)=((span:Int)+1) * w+1:=by push_cast;rfl
 obtain⟨h1,h2,h3⟩:=max_value hF (by omega) (by omega);have hle: ∀ S,SlotCut hold w s t span S→bal (bigG w hold l s t span) F (((span+1) * w:Nat):Int)≤takesL S span l:=by
  intro S hS;rw[← cap_side h hS];exact value_le hF.flow _ (by rw[e0];exact sideG_first) (by rw[e1];exact sideG_last) (by omega) (by omega)
 have h4:=hle _ (src_cut (hold:=hold) (w:=w) (span:=span) h.st);have h5:=takes_top h (fun v _=>decide (v=(s:Int)));obtain⟨c1,c2,c3⟩:=cut_big (hold:=hold) h (R:=sideP (bigG w hold l s t span) F ((span+1) * w+2) ((span+1) * w)) (by rw[← e0];exact h2) (by rw[← e1];exact h3) (by omega);refine⟨hle,⟨c1,c2,c3⟩,?_⟩;rw[h1,cap_big h c1 c2 c3]
end H
namespace Q
open P
open H (wayP wayRes wayF wayF_eq StepsOk Right stepsR bfP bfL dOf nodes wayL frP toP esP way_nat bf_same Fd bfP_upto dOf_get fnd fnd_some fnd_none fnd_of backL_spec lv_lt esP_fr esP_to steps_ev)
theorem stepsOk {l:List S73} {F:List Int} {n:Nat} (hr:Right l F n):StepsOk l n (stepsR l F F.length):=
 ⟨hr.ends,hr.arcs,fun s hs=>H.stepsR_of hr s hs,by have:=H.stepsR_len l F F.length;have:=hr.len;have:=hr.arcs;omega⟩
theorem way_same {l:List S73} {F:List Int} {n:Nat} (hr:Right l F n) (s v:Nat):wayRes l (stepsR l F F.length) n s (v:Int)=(wayP l F n s v,decide (v∈nodes (bfP l F n s))):=by
 rw[way_nat,bf_same hr];unfold wayP;by_cases h:v∈nodes (bfP l F n s)
 ·rw[Yx h,Yx h,Yv h]
 ·rw[Yy h,Yy h,Yw h]
theorem way_ref_eq {l:List S73} {F:List Int} {n:Nat} (hr:Right l F n) {s:Nat} (hs:s<n) (b:Bool) (v:Nat):ebbtideref08_Way.f (n:Int) b l (s:Int) (v:Int) (stepsR l F F.length)=some (wayP l F n s v,decide (v∈nodes (bfP l F n s))):=by
 unfold ebbtideref08_Way.f;rw[wayF_eq (stepsOk hr) hs hr.fifty,way_same hr]
end Q
namespace Q
open P
open H (stRoom)
theorem rdStep_nat (l:List S113) (i:Nat):rd_T113 l (i:Int)=l.getD i z113:=by unfold rd_T113;rw[Int.toNat_natCast]
end Q
namespace Q
open P
open H (Right StepOf stRoom IsFlow leastR pushW stRoom_in)
section
variable {l:List S73} {F:List Int} {n:Nat}
theorem left_rt (hr:Right l F n) {s:S113} (hs:StepOf l s) (m:Int) (b:Bool):ebbtideref07_Left.f m b l F s.f0 s.f1=some (stRoom l F s):=by
 have h0:=stRoom_in hr hs;have hl:=hr.len;obtain⟨i,h1,h2⟩:=hs;unfold ebbtideref07_Left.f;unfold stRoom at *;by_cases g:s.f1=true
 ·simp only[Yx g] at h0 ⊢
  rw[Yx (by omega),Yx (by omega)];rfl
 ·simp only[Yy g] at h0 ⊢
  rw[Yx (by omega),Yx (by omega),Yx (by omega)];have e:rd F s.f0=F.getD s.f0.toNat 0:=rfl;rw[e,wrap_id (by omega) (by omega)]
def minR (l:List S73) (F:List Int):Int→List S113→Int
 |a,[]=>a
 |a,s::L=>minR l F (min a (stRoom l F s)) L
theorem minR_least (l:List S73) (F:List Int): ∀ (L:List S113) (a:Int),L≠[]→minR l F a L=min a (leastR l F L)
 |[],a,h=>absurd rfl h
 |[s],a,_=>rfl
 |s::t::L,a,_=>by
  show minR l F (min a (stRoom l F s)) (t::L)=_;rw[minR_least l F (t::L) _ (by simp)];show _=min a (min (stRoom l F s) (leastR l F (t::L)));omega
theorem bottle_l0 (hr:Right l F n) (b:Bool) (m:Int) {W:List S113} (hW: ∀ s,s∈W→StepOf l s) (hl:W.length≤1000000) (d:Nat): ∀ (i:Nat) (a:Int),i+d=W.length→
  Ev (fun k=>ebbtideref08_Bottle.l0 k F W a (i:Int) m b l) (minR l F a (W.drop i)):=by
 induction d with
 |zero=>
  intro i a hi;refine Ev.succ ?_;simp only[ebbtideref08_Bottle.l0];refine Ev.neg (by omega) ?_;exact Ev.done (by rw[List.drop_of_length_le (by omega)];rfl)
 |succ d ih=>
  intro i a hi;refine Ev.succ ?_;simp only[ebbtideref08_Bottle.l0];refine Ev.pos (by omega) ?_;refine Ev.pos (by omega) ?_;rw[rdStep_nat];have hm:W.getD i z113∈W:=by rw[List.getD_eq_getElem?_getD,List.getElem?_eq_getElem (by omega)];exact List.getElem_mem _
  refine Ev.call (left_rt hr (hW _ hm) m b) ?_;rw[wrap_succ (n:=W.length) (by omega) (by omega),drop_getD W i z113 (by omega)];have e:mn a (stRoom l F (W.getD i z113))=min a (stRoom l F (W.getD i z113)):=by unfold mn;split<;>omega
  rw[e];exact ih (i+1) _ (by omega)
theorem bottle_ev (hr:Right l F n) (b:Bool) (m:Int) {W:List S113} (hW: ∀ s,s∈W→StepOf l s) (hl:W.length≤1000000) (hne:W≠[]):Ev (fun k=>ebbtideref08_Bottle.f k m b l F W) (leastR l F W):=by
 cases W with
 |nil=>exact absurd rfl hne
 |cons s W=>
  unfold ebbtideref08_Bottle.f;refine Ev.pos (by simp) ?_;have e0:rd_T113 (s::W) 0=s:=rfl;rw[e0];refine Ev.call (left_rt hr (hW s List.mem_cons_self) m b) ?_;refine Ev.eq (bottle_l0 hr b m hW hl W.length 1 (stRoom l F s) (by simp;omega)) ?_;show minR l F (stRoom l F s) W=_;cases W with
  |nil=>rfl
  |cons t W=>
   rw[minR_least l F (t::W) _ (by simp)];rfl
end
end Q
namespace Q
open P
open H (wayP Right bfP dOf nodes wayL frP toP esP bfP_upto backL backL_spec esP_fr esP_to stFrom stTo stRoom mem_esP stL_of StepOf Leads netG fds_lt dOf_mem fnd fnd_some)
theorem leads_imp {α:Type} {to_:α→Nat} {es es':Nat→List α} (h: ∀ u e,e∈es u→e∈es' u): ∀ {L:List α} {u t:Nat},Leads to_ es u L t→Leads to_ es' u L t
 |[],u,t,hl=>hl
 |e::L,u,t,hl=>⟨h _ _ hl.1,leads_imp h hl.2⟩
theorem backL_mem {fr:S113→Nat} {st:List (H.Fd S113)} {s:Nat} (k:Nat): ∀ {v:Nat} {e:S113},e∈backL fr st s k v→ ∃ x,x∈st∧x.v≠s∧x.by_=e:=by
 induction k with
 |zero=>intro v e h;cases h
 |succ k ih=>
  intro v e h;unfold backL at h;by_cases hv:v=s
  ·rw[Yx hv] at h;cases h
  ·rw[Yy hv] at h
   cases hf:fnd st v with
   |none=>rw[hf] at h;cases h
   |some x=>
    rw[hf] at h;rcases List.mem_cons.1 h with h|h
    ·obtain⟨h1,h2⟩:=fnd_some hf
     exact⟨x,h1,by omega,h.symm⟩
    ·exact ih h
section
variable {l:List S73} {F:List Int} {n s t:Nat}
theorem wayP_fact (hr:Right l F n) (hs:s<n) (hm:t∈nodes (bfP l F n s)):Leads (toP l) (fun v=>H.stL l v l.length) s (wayP l F n s t) t∧ ∀ e,e∈wayP l F n s t→(netG l F (dOf n (bfP l F n s))).adm (frP l e) e=true:=by
 have hu:=(bfP_upto hr hs).fds;obtain⟨x,hx,hxt⟩:=List.mem_map.1 hm;have hW:wayP l F n s t=(backL (frP l) (bfP l F n s) s x.lv x.v).reverse:=by rw[← hxt];exact H.way_of hr hs hu ⟨[],by rw[List.append_nil]⟩ hx
 rw[hW];constructor
 ·have h_:=(backL_spec hu esP_fr _ hx (Nat.le_refl _)).2
  rw[hxt] at h_;exact leads_imp (fun u e he=>(mem_esP.1 he).1) (by rw[hxt];exact h_)
 ·intro e he
  rw[List.mem_reverse] at he;obtain⟨y,hy,hyne,hye⟩:=backL_mem _ he;rcases hu.mem_lv hy with ⟨h1,_⟩|⟨_,hto,z,hz,hze,hlv⟩
  ·exact absurd h1 hyne
  rw[hye] at hto hze;have hfz:=esP_fr _ _ hze;have hzd:=dOf_mem hu.nodup hz (0:Int) (fds_lt hu (esP_to hr) hs _ (List.mem_map_of_mem hz));have hyd:=dOf_mem hu.nodup hy (0:Int) (fds_lt hu (esP_to hr) hs _ (List.mem_map_of_mem hy));unfold H.Net_.adm;rw[Bool.and_eq_true,decide_eq_true_eq];refine⟨?_,?_⟩
  ·show (dOf n (bfP l F n s)).getD (toP l e) 0=(dOf n (bfP l F n s)).getD (frP l e) 0+1
   rw[hto,hfz];have h1:(dOf n (bfP l F n s)).getD y.v 0=(y.lv:Int):=hyd;have h2:(dOf n (bfP l F n s)).getD z.v 0=(z.lv:Int):=hzd;omega
  ·show decide (0<stRoom l F e)=true
   exact Yv (mem_esP.1 hze).2
end
end Q
namespace Q
open P
open H (Right StepOf stRoom IsFlow MaxF leastR pushW bfP nodes wayP stepsR steps_ev netG dOf frP toP)
theorem pushed_l0 {l:List S73} {n:Nat} {c:Int} (h0:0≤c) {W:List S113} (hl:W.length≤1000000) (d:Nat): ∀ (i:Nat) (X:List Int),i+d=W.length→Right l X n→(∀ s,s∈W.drop i→StepOf l s∧c≤stRoom l X s)→(W.drop i).Pairwise (fun a b=>a.f0≠b.f0)→
  Ev (fun k=>ebbtideref07_Pushed.l0 k W c X (i:Int)) (pushW X c (W.drop i)):=by
 induction d with
 |zero=>
  intro i X hi _ _ _;refine Ev.succ ?_;simp only[ebbtideref07_Pushed.l0];refine Ev.neg (by omega) ?_;exact Ev.done (by rw[List.drop_of_length_le (by omega)];rfl)
 |succ d ih=>
  intro i X hi hr hst hp;have hd:=drop_getD W i z113 (by omega);obtain⟨e,hee⟩: ∃ e,e=W.getD i z113:=⟨_,rfl⟩;rw[← hee] at hd;rw[hd] at hst hp ⊢;rw[List.pairwise_cons] at hp;obtain⟨hso,hrm⟩:=hst e List.mem_cons_self;have hgo:=hr.go hso h0 hrm;have hXl:=hr.len;have hnx:=ih (i+1) (H.goS X e c) (by omega) hgo (fun x hx=>by
   have hx2:=hst x (List.mem_cons_of_mem _ hx);exact⟨hx2.1,by rw[H.room_other hso hx2.1 c (hp.1 x hx)];exact hx2.2⟩) hp.2
  obtain⟨j,hj,hje⟩:=hso;have hgn:=hgo.nums j hj;have hin:=hr.nums j hj;have hroom:=H.stRoom_in hr ⟨j,hj,hje⟩;refine Ev.succ ?_;simp only[ebbtideref07_Pushed.l0];refine Ev.pos (by omega) ?_;refine Ev.pos (by omega) ?_;rw[rdStep_nat, ← hee];have e1:rd X e.f0=X.getD j 0:=by rw[hje,rd_nat]
  have e2:X.getD e.f0.toNat 0=X.getD j 0:=by rw[hje,Int.toNat_natCast]
  rw[wrap_succ (n:=W.length) (by omega) (by omega)];unfold stRoom at hrm;unfold H.goS at hnx;refine Ev.ite (fun g=> ?_) (fun g=> ?_)
  ·rw[Yx g] at hrm hnx
   refine Ev.pos (by omega) ?_;refine Ev.pos (by omega) ?_;rw[e1,wrap_id (by omega) (by omega), ← e2];show Ev _ (pushW (H.goS X e c) c (W.drop (i+1)));unfold H.goS;rw[Yx g];exact hnx
  ·rw[Yy g] at hrm hnx
   have hf2:=hin.2.2.2.2;rw[hje] at hrm;rw[Int.toNat_natCast] at hrm;refine Ev.pos (by omega) ?_;refine Ev.pos (by omega) ?_;rw[e1,wrap_id (by omega) (by omega), ← e2];show Ev _ (pushW (H.goS X e c) c (W.drop (i+1)));unfold H.goS;rw[Yy g];exact hnx
theorem pushed_ev {l:List S73} {F:List Int} {n:Nat} (hr:Right l F n) {c:Int} (h0:0≤c) {W:List S113} (hl:W.length≤1000000) (hst: ∀ s,s∈W→StepOf l s∧c≤stRoom l F s) (hp:W.Pairwise (fun a b=>a.f0≠b.f0)):
  Ev (fun k=>ebbtideref07_Pushed.f k F W c) (pushW F c W):=by
 have hF:=hr.len;have har:=hr.arcs;unfold ebbtideref07_Pushed.f;refine Ev.pos (by simp;omega) ?_;rw[List.nil_append];exact pushed_l0 h0 hl W.length 0 F (by omega) hr hst hp
theorem wayP_len50 {l:List S73} {F:List Int} {n:Nat} (hr:Right l F n) {s:Nat} (hs:s<n) {t:Nat} (h:t∈nodes (bfP l F n s)):(wayP l F n s t).length≤50:=by
 obtain⟨x,hx,rfl⟩:=List.mem_map.1 h;have hu:=(H.bfP_upto hr hs).fds;have h3:=H.lv_lt hu hx;have h4:=H.fds_len hu (H.esP_to hr) hs;have h5:=hr.fifty;unfold wayP;rw[Yx h];unfold H.wayL;rw[List.length_reverse,(H.backL_spec hu H.esP_fr _ hx (Nat.le_of_lt h3)).1];omega
theorem best_l0 {l:List S73} {n s t:Nat} (b:Bool) (hs:s<n) (ht:t<n) (hst:s≠t) (d:Nat): ∀ F:List Int,IsFlow l F n s t→219902325555200 - bal l F s<d→
  ∃ G,MaxF l G n s t∧Ev (fun k=>ebbtideref09_Best.l0 k (s:Int) (t:Int) F (n:Int) b l) G:=by
 induction d with
 |zero=>intro F hf hd;have:=H.flow_top hf hs hst;omega
 |succ d ih=>
  intro F hf hd;have hr:=hf.right;by_cases hm:t∈nodes (bfP l F n s)
  ·obtain⟨hL,ha⟩:=wayP_fact hr hs hm
   obtain⟨g1,g2,g3,g4,g5,g6,g7⟩:=H.push_found hf hr hs hst hL ha;obtain⟨G,q1,q2⟩:=ih _ g1 (by omega);refine⟨G,q1,?_⟩;have h50:=wayP_len50 hr hs hm;refine Ev.succ ?_;simp only[ebbtideref09_Best.l0];refine Ev.bind (steps_ev hr _ b) ?_;refine Ev.call (way_ref_eq hr hs b t) ?_;refine Ev.pos (Yv hm) ?_;refine Ev.bind (bottle_ev hr b _ g6 (by show (wayP l F n s t).length≤1000000;omega) g3) ?_;refine Ev.bind (pushed_ev hr (c:=leastR l F (wayP l F n s t)) (by omega) (by show (wayP l F n s t).length≤1000000;omega) (fun e he=>⟨g6 e he,H.leastR_le he⟩) g5) ?_;exact q2
  ·refine⟨F,⟨hf,hm⟩,?_⟩
   refine Ev.succ ?_;simp only[ebbtideref09_Best.l0];refine Ev.bind (steps_ev hr _ b) ?_;refine Ev.call (way_ref_eq hr hs b t) ?_;refine Ev.neg (by simpa using hm) ?_;exact Ev.now _
theorem best_ev {l:List S73} {n s t:Nat} (b:Bool) (hr:Right l (List.replicate l.length 0) n) (hs:s<n) (ht:t<n) (hst:s≠t): ∃ G,MaxF l G n s t∧Ev (fun k=>ebbtideref09_Best.f k (n:Int) b l (s:Int) (t:Int)) G:=by
 obtain⟨h1,h2⟩:=H.zeros_of (s:=s) (t:=t) hr;obtain⟨G,g1,g2⟩:=best_l0 b hs ht hst 300000000000000 _ h1 (by omega);refine⟨G,g1,?_⟩;have har:=hr.arcs;unfold ebbtideref09_Best.f;refine Ev.pos (by omega) ?_;refine Ev.pos (by omega) ?_;rw[Int.toNat_natCast];exact g2
end Q
namespace Q
open P
open H (GridOk bigG baseG gridL mvL wtL fiL laL mvA wtA fiA laA useO keepsO Right IsFlow MaxF bfP nodes stepsR steps_ev sideP SlotCut big_right big_len big_max takesL takesL_congr)
theorem wrap_at {a w v:Int} (h0:0≤a) (h1:a≤1000) (g0:0≤w) (g1:w≤1000) (v0:0≤v) (v1:v≤1000):wrap64 (wrap64 (a * w)+v)=a * w+v:=by
 have e1:0≤a * w:=Int.mul_nonneg h0 g0;have e2:a * w≤1000 * 1000:=Int.mul_le_mul h1 g1 g0 (by decide);rw[wrap_id (x:=a * w) (by omega) (by omega),wrap_id (by omega) (by omega)]
theorem wrap_mul {a w:Int} (h0:0≤a) (h1:a≤1000) (g0:0≤w) (g1:w≤1000):wrap64 (a * w)=a * w:=by
 have e1:0≤a * w:=Int.mul_nonneg h0 g0;have e2:a * w≤1000 * 1000:=Int.mul_le_mul h1 g1 g0 (by decide);rw[wrap_id (x:=a * w) (by omega) (by omega)]
theorem arcs_l4 {w:Nat} {l:List S73} {s t span:Nat} (h:GridOk w l s t span) (d:Nat): ∀ (i:Nat) (x:List S73) (y:List S107),i+d=span+1→x.length+d≤100000→y.length+d≤100000→
  ∃ K,Ev (fun k=>ebbtideref15_Arcs.l4 k (t:Int) (span:Int) x y (w:Int) (i:Int)) (x ++ laL w span t i d,K):=by
 have h1:=h.w1;have h2:=h.span;have h3:=h.t1
 induction d with
 |zero=>
  intro i x y hi hx hy;refine⟨y,?_⟩;refine Ev.succ ?_;simp only[ebbtideref15_Arcs.l4];refine Ev.neg (by omega) ?_;exact Ev.done (by unfold laL;rw[List.append_nil])
 |succ d ih=>
  intro i x y hi hx hy;obtain⟨K,hK⟩:=ih (i+1) (x ++ [H.laA w span t i]) (y ++ [⟨false,false,0,t,i⟩]) (by omega) (by rw[List.length_append];simp only[List.length_cons,List.length_nil];omega) (by rw[List.length_append];simp only[List.length_cons,List.length_nil];omega);refine⟨K,?_⟩;rw[List.append_assoc] at hK;refine Ev.succ ?_;simp only[ebbtideref15_Arcs.l4];refine Ev.pos (by omega) (Ev.pos (by omega) (Ev.pos (by omega) ?_));have ew:wrap64 ((span:Int)+1)=(span:Int)+1:=wrap_id (by omega) (by omega);rw[wrap_succ (i:=i) (n:=100) (by omega) (by omega),ew,wrap_at (a:=(i:Int)) (by omega) (by omega) (by omega) (by omega) (by omega) (by omega),wrap_at (a:=(span:Int)+1) (by omega) (by omega) (by omega) (by omega) (by omega) (by omega)];exact hK
theorem arcs_l3 {w:Nat} {l:List S73} {s t span:Nat} (h:GridOk w l s t span) (d:Nat): ∀ (i:Nat) (x:List S73) (y:List S107),i+d=span+1→x.length+d+100≤100000→y.length+d+100≤100000→
  ∃ K,Ev (fun k=>ebbtideref15_Arcs.l3 k (s:Int) (t:Int) (span:Int) x y (w:Int) (i:Int)) (x ++ (fiL w span s i d ++ laL w span t 0 (span+1)),K):=by
 have h1:=h.w1;have h2:=h.span;have h3:=h.s1
 induction d with
 |zero=>
  intro i x y hi hx hy;obtain⟨K,hK⟩:=arcs_l4 h (span+1) 0 x y (by omega) (by omega) (by omega);refine⟨K,?_⟩;refine Ev.succ ?_;simp only[ebbtideref15_Arcs.l3];refine Ev.neg (by omega) ?_;exact hK
 |succ d ih=>
  intro i x y hi hx hy;obtain⟨K,hK⟩:=ih (i+1) (x ++ [H.fiA w span s i]) (y ++ [⟨false,false,0,s,i⟩]) (by omega) (by rw[List.length_append];simp only[List.length_cons,List.length_nil];omega) (by rw[List.length_append];simp only[List.length_cons,List.length_nil];omega);refine⟨K,?_⟩;rw[List.append_assoc] at hK;refine Ev.succ ?_;simp only[ebbtideref15_Arcs.l3];refine Ev.pos (by omega) (Ev.pos (by omega) (Ev.pos (by omega) ?_));have ew:wrap64 ((span:Int)+1)=(span:Int)+1:=wrap_id (by omega) (by omega);rw[wrap_succ (i:=i) (n:=100) (by omega) (by omega),ew,wrap_at (a:=(i:Int)) (by omega) (by omega) (by omega) (by omega) (by omega) (by omega),wrap_mul (a:=(span:Int)+1) (by omega) (by omega) (by omega) (by omega)];exact hK
theorem wtL_nil {keeps:Int→Bool} {w span a:Int} (h: ¬ a<span∨ ∀ v,keeps v=false) (d:Nat): ∀ i:Nat,wtL keeps w span a i d=[]:=by
 induction d with
 |zero=>intro i;rfl
 |succ d ih=>
  intro i;unfold wtL;rw[Yy (fun g=>h.elim (fun c=>c g.1) (fun c=>by rw[c] at g;cases g.2)),ih]
theorem arcs_l2 {w:Nat} {l:List S73} {s t span:Nat} (hold:Bool) (h:GridOk w l s t span) (a c:Nat) (ha:a≤span) (rest:List S73) (hn: ∀ (x:List S73) (y:List S107),x.length+c≤100000→y.length+c≤100000→ ∃ K,Ev (fun k=>ebbtideref15_Arcs.l0 k (s:Int) (t:Int) (span:Int) x y (w:Int) ((a+1:Nat):Int) (w:Int) hold l) (x ++ rest,K))
  (d:Nat): ∀ (i:Nat) (x:List S73) (y:List S107),i+d=w→x.length+d+c≤100000→y.length+d+c≤100000→
  ∃ K,Ev (fun k=>ebbtideref15_Arcs.l2 k (s:Int) (t:Int) (span:Int) x y (w:Int) (a:Int) (i:Int) (w:Int) hold l) (x ++ (wtL (keepsO hold s t) w span a i d ++ rest),K):=by
 have h1:=h.w1;have h2:=h.span;have h3:=h.s1;have hsucc:=wrap_succ (i:=a) (n:=100) (by omega) (by omega);have out: ∀ (i:Nat) (x:List S73) (y:List S107),x.length+c≤100000→y.length+c≤100000→ ∃ K,Ev (fun k=>ebbtideref15_Arcs.j3 k (s:Int) (t:Int) (span:Int) x y (w:Int) (a:Int) (i:Int) false (w:Int) hold l) (x ++ rest,K):=by
  intro i x y hx hy;obtain⟨K,hK⟩:=hn x y hx hy;refine⟨K,?_⟩;refine Ev.succ ?_;simp only[ebbtideref15_Arcs.j3];refine Ev.neg (by decide) ?_;rw[hsucc];exact hK
 induction d with
 |zero=>
  intro i x y hi hx hy;obtain⟨K,hK⟩:=out i x y (by omega) (by omega);refine⟨K,?_⟩;refine Ev.succ ?_;simp only[ebbtideref15_Arcs.l2];refine Ev.neg (by omega) ?_;exact hK
 |succ d ih=>
  intro i x y hi hx hy;by_cases hh:hold=true
  ·by_cases hlt:(a:Int)<span
   ·have e1:decide ((a:Int)<(span:Int))=true:=Yv hlt
    by_cases hk:keepsO hold s t i=true
    ·obtain⟨K,hK⟩:=ih (i+1) (x ++ [wtA w a i]) (y ++ [⟨false,true,0,i,a⟩]) (by omega) (by rw[List.length_append];simp only[List.length_cons,List.length_nil];omega) (by rw[List.length_append];simp only[List.length_cons,List.length_nil];omega)
     refine⟨K,?_⟩;have hk2:=hk;unfold keepsO at hk2;rw[Bool.and_eq_true,Bool.and_eq_true,decide_eq_true_eq,decide_eq_true_eq] at hk2;unfold wtL;rw[Yx ⟨hlt,hk⟩];rw[List.append_assoc] at hK;refine Ev.succ ?_;simp only[ebbtideref15_Arcs.l2];refine Ev.pos (by omega) (Ev.pos hh ?_);rw[e1];refine Ev.succ ?_;simp only[ebbtideref15_Arcs.j3];refine Ev.pos trivial (Ev.neg hk2.1.2 (Ev.neg hk2.2 (Ev.pos (by omega) (Ev.pos (by omega) ?_))));have ea:wrap64 ((a:Int)+1)=(a:Int)+1:=wrap_id (by omega) (by omega);rw[wrap_succ (i:=i) (n:=100) (by omega) (by omega),ea,wrap_at (a:=(a:Int)) (by omega) (by omega) (by omega) (by omega) (by omega) (by omega),wrap_at (a:=(a:Int)+1) (by omega) (by omega) (by omega) (by omega) (by omega) (by omega)];exact hK
    ·obtain⟨K,hK⟩:=ih (i+1) x y (by omega) (by omega) (by omega)
     refine⟨K,?_⟩;have hk2:(i:Int)=s∨(i:Int)=t:=by
      by_cases c1:(i:Int)=s
      ·exact .inl c1
      by_cases c2:(i:Int)=t
      ·exact .inr c2
      exact absurd (by unfold keepsO;rw[hh,Yv c1,Yv c2];rfl) hk
     unfold wtL;rw[Yy (fun g=>hk g.2)];refine Ev.succ ?_;simp only[ebbtideref15_Arcs.l2];refine Ev.pos (by omega) (Ev.pos hh ?_);rw[e1];refine Ev.succ ?_;simp only[ebbtideref15_Arcs.j3];refine Ev.pos trivial ?_;rw[wrap_succ (i:=i) (n:=100) (by omega) (by omega)];refine Ev.ite (fun _=>hK) (fun c1=>Ev.pos (hk2.resolve_left c1) hK)
   ·obtain⟨K,hK⟩:=out i x y (by omega) (by omega)
    refine⟨K,?_⟩;rw[wtL_nil (.inl hlt)];refine Ev.succ ?_;simp only[ebbtideref15_Arcs.l2];refine Ev.pos (by omega) (Ev.pos hh ?_);rw[Yw hlt];exact hK
  ·obtain⟨K,hK⟩:=out i x y (by omega) (by omega)
   refine⟨K,?_⟩;rw[wtL_nil (.inr (fun v=>by unfold keepsO;rw[Bool.not_eq_true] at hh;rw[hh];rfl))];refine Ev.succ ?_;simp only[ebbtideref15_Arcs.l2];refine Ev.pos (by omega) (Ev.neg hh ?_);exact hK
theorem arcs_l1 {w:Nat} {l:List S73} {s t span:Nat} (hold:Bool) (h:GridOk w l s t span) (a c:Nat) (ha:a≤span) (rest:List S73) (hn: ∀ (x:List S73) (y:List S107),x.length+c≤100000→y.length+c≤100000→ ∃ K,Ev (fun k=>ebbtideref15_Arcs.l0 k (s:Int) (t:Int) (span:Int) x y (w:Int) ((a+1:Nat):Int) (w:Int) hold l) (x ++ rest,K))
  (d:Nat): ∀ (i:Nat) (x:List S73) (y:List S107),i+d=l.length→x.length+d+w+c≤100000→y.length+d+w+c≤100000→
  ∃ K,Ev (fun k=>ebbtideref15_Arcs.l1 k (s:Int) (t:Int) (span:Int) x y (w:Int) (a:Int) (i:Int) (w:Int) hold l) (x ++ (mvL (useO s t) w span a (l.drop i) ++ (wtL (keepsO hold s t) w span a 0 w ++ rest)),K):=by
 have h1:=h.w1;have h2:=h.span;have h3:=h.s1;have h4:=h.len
 induction d with
 |zero=>
  intro i x y hi hx hy;obtain⟨K,hK⟩:=arcs_l2 hold h a c ha rest hn w 0 x y (by omega) (by omega) (by omega);refine⟨K,?_⟩;rw[List.drop_of_length_le (by omega)];refine Ev.succ ?_;simp only[ebbtideref15_Arcs.l1];refine Ev.neg (by omega) ?_;exact hK
 |succ d ih=>
  intro i x y hi hx hy;have q1:(i:Int)<(l.length:Int):=by omega
  have q2:0≤(i:Int):=Int.natCast_nonneg i;have q3:x.length<4398046511104:=by omega
  have q4:y.length<4398046511104:=by omega
  have hm:rd_T73 l (i:Int)∈l:=by rw[rdArc_nat];exact getD_mem (by omega)
  obtain⟨b1,b2,b3⟩:=h.arcs _ hm;have c0:=b1.f0;have c1:=b1.h0;have c2:=b1.f1;have c3:=b1.h1;have c5:=b1.f3;have hd:=drop_getD l i z73 (by omega);rw[← rdArc_nat] at hd;rw[hd];have ea:wrap64 ((a:Int)+(rd_T73 l (i:Int)).f3)=(a:Int)+(rd_T73 l (i:Int)).f3:=wrap_id (by omega) (by omega);have hsc:wrap64 ((i:Int)+1)=((i+1:Nat):Int):=wrap_succ (i:=i) (n:=100) (by omega) (by omega);unfold mvL;by_cases hk:(a:Int)+(rd_T73 l (i:Int)).f3≤span∧useO s t (rd_T73 l (i:Int))=true
  ·obtain⟨K,hK⟩:=ih (i+1) (x ++ [mvA w a (rd_T73 l (i:Int))]) (y ++ [⟨true,false,i,0,a⟩]) (by omega) (by rw[List.length_append];simp only[List.length_cons,List.length_nil];omega) (by rw[List.length_append];simp only[List.length_cons,List.length_nil];omega)
   refine⟨K,?_⟩;have hk2:=hk.2;unfold useO at hk2;rw[Bool.and_eq_true,decide_eq_true_eq,decide_eq_true_eq] at hk2;rw[Yx hk];rw[List.append_assoc] at hK;refine Ev.succ ?_;simp only[ebbtideref15_Arcs.l1];refine Ev.pos q1 (Ev.pos q2 ?_);rw[ea,hsc];refine Ev.pos hk.1 (Ev.neg hk2.1 (Ev.neg hk2.2 (Ev.pos q3 (Ev.pos q4 ?_))));rw[wrap_at (a:=(a:Int)) (by omega) (by omega) (by omega) (by omega) (by omega) (by omega),wrap_at (a:=(a:Int)+(rd_T73 l (i:Int)).f3) (by omega) (by omega) (by omega) (by omega) (by omega) (by omega)];exact hK
  ·obtain⟨K,hK⟩:=ih (i+1) x y (by omega) (by omega) (by omega)
   refine⟨K,?_⟩;rw[Yy hk];refine Ev.succ ?_;simp only[ebbtideref15_Arcs.l1];refine Ev.pos q1 (Ev.pos q2 ?_);rw[ea,hsc];refine Ev.ite (fun g1=> ?_) (fun _=>hK);refine Ev.ite (fun _=>hK) (fun g2=> ?_);refine Ev.pos ?_ hK;refine Decidable.byContradiction fun g3=>hk ⟨g1,?_⟩
   unfold useO;rw[Yv g2,Yv g3];rfl
theorem arcs_l0 {w:Nat} {l:List S73} {s t span:Nat} (hold:Bool) (h:GridOk w l s t span) (d:Nat): ∀ (i:Nat) (x:List S73) (y:List S107),i+d=span+1→x.length+d * 100+1000≤100000→y.length+d * 100+1000≤100000→
  ∃ K,Ev (fun k=>ebbtideref15_Arcs.l0 k (s:Int) (t:Int) (span:Int) x y (w:Int) (i:Int) (w:Int) hold l) (x ++ (gridL (useO s t) (keepsO hold s t) w span l i d ++ (fiL w span s 0 (span+1) ++ laL w span t 0 (span+1))),K):=by
 have h1:=h.w1;have h2:=h.span;have h4:=h.len
 induction d with
 |zero=>
  intro i x y hi hx hy;obtain⟨K,hK⟩:=arcs_l3 h (span+1) 0 x y (by omega) (by omega) (by omega);refine⟨K,?_⟩;refine Ev.succ ?_;simp only[ebbtideref15_Arcs.l0];refine Ev.neg (by omega) ?_;exact hK
 |succ d ih=>
  intro i x y hi hx hy;obtain⟨c,hc⟩: ∃ c,c=d * 100+1000:=⟨_,rfl⟩;have hnx: ∀ (x':List S73) (y':List S107),x'.length+c≤100000→y'.length+c≤100000→ ∃ K,Ev (fun k=>ebbtideref15_Arcs.l0 k (s:Int) (t:Int) (span:Int) x' y' (w:Int) ((i+1:Nat):Int) (w:Int) hold l) (x' ++ (gridL (useO s t) (keepsO hold s t) w span l (i+1) d ++ (fiL w span s 0 (span+1) ++ laL w span t 0 (span+1))),K):=
   fun x' y' hx' hy'=>ih (i+1) x' y' (by omega) (by omega) (by omega)
  obtain⟨K,hK⟩:=arcs_l1 hold h i c (by omega) (gridL (useO s t) (keepsO hold s t) w span l (i+1) d ++ (fiL w span s 0 (span+1) ++ laL w span t 0 (span+1))) hnx l.length 0 x y (by omega) (by omega) (by omega);refine⟨K,?_⟩;refine Ev.succ ?_;simp only[ebbtideref15_Arcs.l0];refine Ev.pos (by omega) ?_;unfold gridL;rw[List.append_assoc,List.append_assoc,Int.toNat_natCast];rw[List.drop_zero] at hK;exact hK
theorem arcs15_ev {w:Nat} {l:List S73} {s t span:Nat} (hold:Bool) (h:GridOk w l s t span): ∃ K,Ev (fun k=>ebbtideref15_Arcs.f k (w:Int) hold l (s:Int) (t:Int) (span:Int)) (bigG w hold l s t span,K):=by
 have h2:=h.span;obtain⟨K,hK⟩:=arcs_l0 hold h (span+1) 0 [] [] (by omega) (by simp only[List.length_nil];omega) (by simp only[List.length_nil];omega);refine⟨K,?_⟩;unfold ebbtideref15_Arcs.f bigG baseG;rw[Int.toNat_natCast];exact hK
theorem build15_ev {w:Nat} {l:List S73} {s t span:Nat} (hold:Bool) (h:GridOk w l s t span):Ev (fun k=>ebbtideref15_Build.f k (w:Int) hold l (s:Int) (t:Int) (span:Int)) ((((span+1) * w+2:Nat):Int),false,bigG w hold l s t span,0):=by
 have h0:=h.w0;have h1:=h.w1;have h2:=h.span;have h4:=h.len;have h5:=h.s1;have h6:=h.t1;have h7:=h.st;have hN:NetOk w l:=⟨by omega,by omega,by omega,fun x hx=>(h.arcs x hx).1⟩;have hE:EndsOk w s t:=⟨by omega,by omega,by omega,by omega,by omega⟩;have e1:wrap64 ((span:Int)+1)=(span:Int)+1:=wrap_id (by omega) (by omega);have e2:=wrap_mul (a:=(span:Int)+1) (w:=w) (by omega) (by omega) (by omega) (by omega);have e3:=wrap_at (a:=(span:Int)+1) (w:=w) (v:=2) (by omega) (by omega) (by omega) (by omega) (by omega) (by omega);have e4:((span:Int)+1) * w≤8 * 5:=Int.mul_le_mul (by omega) (by omega) (by omega) (by omega);have e5:((span:Int)+1) * l.length≤8 * 10:=Int.mul_le_mul (by omega) (by omega) (by omega) (by omega);have e6:=wrap_mul (a:=(span:Int)+1) (w:=(l.length:Int)) (by omega) (by omega) (by omega) (by omega);have e7:(((span+1) * w+2:Nat):Int)=((span:Int)+1) * w+2:=by push_cast;rfl
 have hfit:Ev (fun k=>ebbtideref15_Fits.f k (w:Int) hold l (span:Int)) true:=by
  unfold ebbtideref15_Fits.f;refine Ev.bind (Ev.eq (ref_check_ev w hold l) (netOk_err hN)) (Ev.pos rfl ?_);refine Ev.call (ref_span_eq span) ?_;refine Ev.pos (by rw[Yy (by omega),Yy (by omega)]) ?_;rw[e1,e2,e6];exact Ev.pos (Int.le_trans e4 (by decide)) (Ev.done (Yv (Int.le_trans e5 (by decide))))
 have hask:Ev (fun k=>ebbtideref15_Asked.f k (w:Int) hold l (s:Int) (t:Int) (span:Int)) 0:=by
  unfold ebbtideref15_Asked.f;refine Ev.bind (Ev.eq (ref_span_asked_ev w hold l s t span) (spanErr_mk hN hE (by omega) (by omega))) (Ev.pos rfl ?_);exact Ev.bind hfit (Ev.pos rfl (Ev.now _))
 obtain⟨K,hK⟩:=arcs15_ev hold h;unfold ebbtideref15_Build.f;refine Ev.bind hask (Ev.pos rfl (Ev.bind hK ?_));rw[e1,e3,e7];exact Ev.now _
theorem leavesR_l0 (n:Int) (b:Bool) {l:List S73} {f:List Int} {m:Nat} (hr:Right l f m) (v:Int) (d:Nat): ∀ (i:Nat) (acc:Int),i+d=l.length→ -(i * 2199023255552)≤acc→acc≤i * 2199023255552→
  Ev (fun k=>ebbtideref07_Leaves.l0 k f v acc (i:Int) n b l) (acc+bal (l.drop i) (f.drop i) v):=by
 have hlen:=hr.len;have hl:=hr.arcs
 induction d with
 |zero=>
  intro i acc hi h0 h1;refine Ev.succ ?_;simp only[ebbtideref07_Leaves.l0];repeat(first|exact Ev.now _|with_reducible refine Ev.pos (by first|assumption|omega) ?_|with_reducible refine Ev.neg (by first|assumption|omega) ?_|with_reducible refine Ev.let_ ?_)
  rw[List.drop_of_length_le (by omega)];exact Ev.done (by simp[bal])
 |succ d ih=>
  intro i acc hi h0 h1;have hs:=hr.nums i (by omega);rw[← rd_nat] at hs;refine Ev.succ ?_;simp only[ebbtideref07_Leaves.l0];repeat(first|exact Ev.now _|with_reducible refine Ev.pos (by first|assumption|omega) ?_|with_reducible refine Ev.neg (by first|assumption|omega) ?_|with_reducible refine Ev.let_ ?_)
  rw[wrap_succ (n:=l.length) (by omega) (by omega),drop_getD l i z73 (by omega),drop_getD f i 0 (by omega), ← rdArc_nat, ← rd_nat,bal_cons];refine Ev.ite (fun g=> ?_) (fun g=> ?_)
  ·rw[Yx g]
   refine Ev.ite (fun g2=> ?_) (fun g2=> ?_)
   ·rw[Yx g2,wrap_id (x:=acc+rd f (i:Int)) (by omega) (by omega),wrap_id (by omega) (by omega)]
    exact Ev.eq (ih (i+1) _ (by omega) (by omega) (by omega)) (by omega)
   ·rw[Yy g2,wrap_id (x:=acc+rd f (i:Int)) (by omega) (by omega)]
    exact Ev.eq (ih (i+1) _ (by omega) (by omega) (by omega)) (by omega)
  ·rw[Yy g]
   refine Ev.ite (fun g2=> ?_) (fun g2=> ?_)
   ·rw[Yx g2,wrap_id (x:=acc - rd f (i:Int)) (by omega) (by omega)]
    exact Ev.eq (ih (i+1) _ (by omega) (by omega) (by omega)) (by omega)
   ·rw[Yy g2]
    exact Ev.eq (ih (i+1) _ (by omega) (by omega) (by omega)) (by omega)
theorem leavesR_ev (n:Int) (b:Bool) {l:List S73} {f:List Int} {m:Nat} (hr:Right l f m) (v:Int):Ev (fun k=>ebbtideref07_Leaves.f k n b l f v) (bal l f v):=by
 unfold ebbtideref07_Leaves.f;exact Ev.eq (leavesR_l0 n b hr v l.length 0 0 (by omega) (by omega) (by omega)) (by rw[List.drop_zero,List.drop_zero];omega)
theorem most16_ev {w:Nat} {l:List S73} {s t span:Nat} (hold:Bool) (h:GridOk w l s t span):
  ∃ F,MaxF (bigG w hold l s t span) F ((span+1) * w+2) ((span+1) * w) ((span+1) * w+1)∧
   Ev (fun k=>ebbtideref09_Best.f k (((span+1) * w+2:Nat):Int) false (bigG w hold l s t span) (((span+1) * w:Nat):Int) (((span+1) * w+1:Nat):Int)) F∧
   Ev (fun k=>ebbtideref16_Most.f k (w:Int) hold l (s:Int) (t:Int) (span:Int)) (bal (bigG w hold l s t span) F (((span+1) * w:Nat):Int),0):=by
 have hn:=h.nodes;obtain⟨F,hF,hE⟩:=best_ev false (big_right (hold:=hold) h) (s:=(span+1) * w) (t:=(span+1) * w+1) (by omega) (by omega) (by omega);refine⟨F,hF,hE,?_⟩;have w2:wrap64 ((((span+1) * w+2:Nat):Int) - 2)=(((span+1) * w:Nat):Int):=by rw[wrap_id (by omega) (by omega)];omega
 have w1:wrap64 ((((span+1) * w+2:Nat):Int) - 1)=(((span+1) * w+1:Nat):Int):=by rw[wrap_id (by omega) (by omega)];omega
 unfold ebbtideref16_Most.f;refine Ev.bind (build15_ev hold h) (Ev.pos rfl ?_);simp only[w1,w2];refine Ev.bind hE (Ev.bind (leavesR_ev _ false hF.flow.right _) (Ev.now _))
def slotsF (R:Int→Bool) (w:Nat):Nat→Nat→List S53
 |_,0=>[]
 |i,d+1=>if R i=true then⟨(i:Int) % w,(i:Int) / w⟩::slotsF R w (i+1) d else slotsF R w (i+1) d
theorem mem_slotsF {R:Int→Bool} {w:Nat} {e:S53} (d:Nat): ∀ {i:Nat},e∈slotsF R w i d↔ ∃ j:Nat,i≤j∧j<i+d∧R j=true∧e=⟨(j:Int) % w,(j:Int) / w⟩:=by
 induction d with
 |zero=>intro i;simp only[slotsF,List.not_mem_nil,false_iff];rintro⟨v,h⟩;omega
 |succ d ih=>
  intro i;unfold slotsF;split
  ·rename_i h
   rw[List.mem_cons,ih];constructor
   ·rintro(rfl|⟨v,h1,h2,h3⟩)
    ·exact⟨i,by omega,by omega,h,rfl⟩
    ·exact⟨v,by omega,by omega,h3⟩
   ·rintro⟨v,h1,h2,h3,rfl⟩
    by_cases e:v=i
    ·subst e;exact .inl rfl
    ·exact .inr ⟨v,by omega,by omega,h3,rfl⟩
  ·rename_i h
   rw[ih];constructor
   ·rintro⟨v,h1,h2,h3⟩;exact⟨v,by omega,by omega,h3⟩
   ·rintro⟨v,h1,h2,h3,rfl⟩
    by_cases e:v=i
    ·subst e;exact absurd h3 h
    ·exact⟨v,by omega,by omega,h3,rfl⟩
theorem slots16_l0 {w:Nat} {l:List S73} {s t span:Nat} (hold:Bool) (h:GridOk w l s t span) {F:List Int} (hF:MaxF (bigG w hold l s t span) F ((span+1) * w+2) ((span+1) * w) ((span+1) * w+1)) (d:Nat): ∀ (i:Nat) (x:List S53),i+d=(span+1) * w→x.length≤i→
  Ev (fun k=>ebbtideref16_Slots.l0 k (span:Int) x (stepsR (bigG w hold l s t span) F F.length) (i:Int) (w:Int) hold l (((span+1) * w+2:Nat):Int) false (bigG w hold l s t span)) (x ++ slotsF (sideP (bigG w hold l s t span) F ((span+1) * w+2) ((span+1) * w)) w i d):=by
 have hn:=h.nodes;have h0:=h.w0;have h1:=h.w1;have h2:=h.span;have e1:wrap64 ((span:Int)+1)=(span:Int)+1:=wrap_id (by omega) (by omega);have e2:=wrap_mul (a:=(span:Int)+1) (w:=w) (by omega) (by omega) (by omega) (by omega);have e3:(((span+1) * w:Nat):Int)=((span:Int)+1) * w:=by push_cast;rfl
 have w2:wrap64 ((((span+1) * w+2:Nat):Int) - 2)=(((span+1) * w:Nat):Int):=by rw[wrap_id (by omega) (by omega)];omega
 have hside: ∀ i:Nat,sideP (bigG w hold l s t span) F ((span+1) * w+2) ((span+1) * w) (i:Int)=decide (i∈nodes (bfP (bigG w hold l s t span) F ((span+1) * w+2) ((span+1) * w))):=by
  intro i;unfold sideP;rw[Int.toNat_natCast];exact decide_eq_decide.2 ⟨fun g=>g.2,fun g=>⟨by omega,g⟩⟩
 induction d with
 |zero=>
  intro i x hi hx;refine Ev.succ ?_;simp only[ebbtideref16_Slots.l0];rw[e1,e2, ← e3];refine Ev.neg (by omega) ?_;exact Ev.done (by unfold slotsF;rw[List.append_nil])
 |succ d ih=>
  intro i x hi hx;have q1:(i:Int)<(((span+1) * w:Nat):Int):=by clear e1 e2 e3 w2 hside ih;omega
  have q2: ¬ (w:Int)=0:=by clear e1 e2 e3 w2 hside ih;omega
  have q3:x.length<8796093022208:=by clear e1 e2 e3 w2 hside ih;omega
  have q4:i<100:=by clear e1 e2 e3 w2 hside ih;omega
  have q5:i+1+d=(span+1) * w:=by clear e1 e2 e3 w2 hside ih;omega
  have q6:i<(span+1) * w+2:=by clear e1 e2 e3 w2 hside ih;omega
  have hsc:wrap64 ((i:Int)+1)=((i+1:Nat):Int):=wrap_succ (i:=i) (n:=100) q4 (by decide);have d1:(i:Int) / w≤i:=Int.ediv_le_self _ (Int.natCast_nonneg i);have d0:0≤(i:Int) / w:=Int.ediv_nonneg (Int.natCast_nonneg i) (Int.natCast_nonneg w);have d2:wrap64 ((i:Int) / w)=(i:Int) / w:=by
   clear e1 e2 e3 w2 hside ih hsc;exact wrap_id (by omega) (by omega)
  refine Ev.succ ?_;simp only[ebbtideref16_Slots.l0];rw[e1,e2, ← e3,w2,hsc];refine Ev.pos q1 ?_;refine Ev.call (way_ref_eq hF.flow.right (by omega) false i) ?_;unfold slotsF;rw[hside i];by_cases hm:i∈nodes (bfP (bigG w hold l s t span) F ((span+1) * w+2) ((span+1) * w))
  ·rw[Yx (Yv hm)]
   refine Ev.pos (Yv hm) (Ev.neg q2 (Ev.pos q3 ?_));have hk:=ih (i+1) (x ++ [⟨(i:Int) % w,(i:Int) / w⟩]) q5 (by rw[List.length_append];exact Nat.add_le_add_right hx 1);rw[List.append_assoc] at hk;rw[Int.tmod_eq_emod_of_nonneg (Int.natCast_nonneg i),Int.tdiv_eq_ediv_of_nonneg (Int.natCast_nonneg i),d2];exact hk
  ·rw[Yy (by simpa using hm)]
   refine Ev.neg (by simpa using hm) ?_;exact ih (i+1) x q5 (Nat.le_succ_of_le hx)
theorem cut16_ev {w:Nat} {l:List S73} {s t span:Nat} (hold:Bool) (h:GridOk w l s t span) {F:List Int} (hF:MaxF (bigG w hold l s t span) F ((span+1) * w+2) ((span+1) * w) ((span+1) * w+1))
  (hE:Ev (fun k=>ebbtideref09_Best.f k (((span+1) * w+2:Nat):Int) false (bigG w hold l s t span) (((span+1) * w:Nat):Int) (((span+1) * w+1:Nat):Int)) F):
  Ev (fun k=>ebbtideref16_Cut.f k (w:Int) hold l (s:Int) (t:Int) (span:Int)) (slotsF (sideP (bigG w hold l s t span) F ((span+1) * w+2) ((span+1) * w)) w 0 ((span+1) * w),0):=by
 have hn:=h.nodes;have w2:wrap64 ((((span+1) * w+2:Nat):Int) - 2)=(((span+1) * w:Nat):Int):=by rw[wrap_id (by omega) (by omega)];omega
 have w1:wrap64 ((((span+1) * w+2:Nat):Int) - 1)=(((span+1) * w+1:Nat):Int):=by rw[wrap_id (by omega) (by omega)];omega
 unfold ebbtideref16_Cut.f;refine Ev.bind (build15_ev hold h) (Ev.pos rfl ?_);simp only[w1,w2];have hS:Ev (fun k=>ebbtideref16_Slots.f k (w:Int) hold l (span:Int) (((span+1) * w+2:Nat):Int) false (bigG w hold l s t span) F) (slotsF (sideP (bigG w hold l s t span) F ((span+1) * w+2) ((span+1) * w)) w 0 ((span+1) * w)):=by
  unfold ebbtideref16_Slots.f;refine Ev.bind (steps_ev hF.flow.right _ _) ?_;exact slots16_l0 hold h hF _ 0 [] (by omega) (Nat.le_refl _)
 exact Ev.bind hE (Ev.bind hS (Ev.now _))
end Q
namespace Q
open P
open H (GridOk bigG SlotCut MaxF sideP big_max takesL takesL_congr at_lt at_mod at_div slotOkB hasL)
theorem has_slotsF {R:Int→Bool} {w span:Nat} {v a:Int} (v0:0≤v) (v1:v<w) (a0:0≤a) (a1:a≤span):hasL (slotsF R w 0 ((span+1) * w)) v a=R (a * w+v):=by
 have e3:(((span+1) * w:Nat):Int)=((span:Int)+1) * w:=by push_cast;rfl
 have hlt:=at_lt (span:=(span:Int)) (w:=(w:Int)) a0 a1 v0 v1;rw[Bool.eq_iff_iff,has_mem];constructor
 ·rintro⟨e,he,h1,h2⟩
  obtain⟨j,_,_,hR,rfl⟩:=(mem_slotsF _).1 he;have h1:(j:Int) % w=v:=h1;have h2:(j:Int) / w=a:=h2;have h3:=Int.emod_add_mul_ediv (j:Int) w;rw[h1,h2] at h3;have h4:a * w+v=(j:Int):=by rw[Int.mul_comm];omega
  rw[h4];exact hR
 ·intro hR
  obtain⟨j,hj⟩:=Int.eq_ofNat_of_zero_le hlt.1;have hj2:a * w+v=(j:Int):=hj;refine⟨⟨(j:Int) % w,(j:Int) / w⟩,(mem_slotsF _).2 ⟨j,Nat.zero_le _,by omega,by rw[← hj2];exact hR,rfl⟩,?_,?_⟩
  ·show (j:Int) % w=v
   rw[← hj2,at_mod v0 v1]
  ·show (j:Int) / w=a
   rw[← hj2,at_div v0 v1]
theorem ok_slotsF {R:Int→Bool} {w span:Nat} (hw:0<w):(slotsF R w 0 ((span+1) * w)).all (slotOkB w span)=true:=by
 refine List.all_eq_true.2 fun e he=> ?_
 obtain⟨j,_,h1,hR,rfl⟩:=(mem_slotsF _).1 he;have e3:(((span+1) * w:Nat):Int)=((span:Int)+1) * w:=by push_cast;rfl
 have g1:=Int.emod_nonneg (j:Int) (b:=(w:Int)) (by omega);have g2:=Int.emod_lt_of_pos (j:Int) (b:=(w:Int)) (by omega);have g3:0≤(j:Int) / w:=Int.ediv_nonneg (Int.natCast_nonneg j) (Int.natCast_nonneg w);have g4:(j:Int) / w<(span:Int)+1:=Int.ediv_lt_of_lt_mul (by omega) (by omega);unfold slotOkB;rw[Yv g1,Yv g2,Yv g3,Yv (by omega:(j:Int) / w≤span)];rfl
theorem cut_of_slot {w:Nat} {hold:Bool} {l:List S73} {s t span:Nat} {z:List S53} (h:GridOk w l s t span) (hok:z.all (slotOkB w span)=true) (hS:SlotCut hold w s t span (hasL z)):
  tcRes w hold l s t span z=(takesL (hasL z) span l,0):=by
 have h0:=h.w0;have h1:=h.w1;have h2:=h.span;have h4:=h.len;have h5:=h.s1;have h6:=h.t1;have h7:=h.st;refine cut_res ⟨by omega,by omega,by omega,fun x hx=>(h.arcs x hx).1⟩ ⟨by omega,by omega,by omega,by omega,by omega⟩ (by omega) (by omega) hok ?_ fun hh=> ?_
 ·refine endsN_mk _ fun k hk=> ?_
  rw[Int.toNat_natCast] at hk;exact⟨hS.src k (by omega) (by omega),hS.snk k (by omega) (by omega)⟩
 ·rw[Int.toNat_natCast,Int.toNat_natCast]
  exact risesAll_mk _ fun v hv=>risesN_mk _ fun k hk=>hS.up hh v k hv hk
theorem slot_of_cut {w:Nat} {hold:Bool} {s t span:Nat} {z:List S53} (h:CutOf w hold s t span z):SlotCut hold w s t span (hasL z):=by
 have h1:=h.ends;have h2:=h.rises;rw[Int.toNat_natCast] at h1;refine⟨fun k k0 k1=> ?_,fun k k0 k1=> ?_,fun hh v k hv hk=> ?_⟩
 ·obtain⟨j,rfl⟩:=Int.eq_ofNat_of_zero_le k0
  exact((ends_iff _).1 h1 j (by omega)).1
 ·obtain⟨j,rfl⟩:=Int.eq_ofNat_of_zero_le k0
  exact((ends_iff _).1 h1 j (by omega)).2
 ·have h3:=h2 hh
  rw[Int.toNat_natCast,Int.toNat_natCast] at h3;exact(rises_iff _).1 ((risesAll_iff _).1 h3 v hv) k hk
theorem gridOk_of {m:Int} (hm:m≤10) {hold:Bool} {r:Int × Bool × List S73 × Int × Int × Int} (h:SmallNet m hold r): ∃ w s t span:Nat,r.1=w∧r.2.2.2.1=s∧r.2.2.2.2.1=t∧r.2.2.2.2.2=span∧GridOk w r.2.2.1 s t span:=by
 have h1:=h.lo;have h2:=h.hi;have h3:=h.ends.s0;have h4:=h.ends.t0;have h5:=h.ends.sn;have h6:=h.ends.tn;have h7:=h.ends.ne;have h8:=h.s0;have h9:=h.s1;have h10:=h.len;obtain⟨w,e1⟩:=Int.eq_ofNat_of_zero_le (show 0≤r.1 by omega);obtain⟨s,e2⟩:=Int.eq_ofNat_of_zero_le h3;obtain⟨t,e3⟩:=Int.eq_ofNat_of_zero_le h4;obtain⟨span,e4⟩:=Int.eq_ofNat_of_zero_le h8;refine⟨w,s,t,span,e1,e2,e3,e4,⟨by omega,by omega,by omega,by omega,by omega,by omega,by omega,fun x hx=>⟨?_,h.arcs x hx⟩⟩⟩;have:=h.net.arcs x hx;rw[e1] at this;exact this
theorem timecutLeast_ev (a0:Int) (hold:Bool) (bits:List S77) (a3 a4 a5:Int) (y1:List Int) (hs:SmallOk (a0,hold,bits,a3,a4,a5)) (hy1:y1.length≤9223372036854775807∧ ∀ b∈y1,U16 b):
  Ev (fun k=>ebbtidelaw18_TimecutLeast.f k a0 hold bits a3 a4 a5 y1) true:=by
 unfold ebbtidelaw18_TimecutLeast.f;obtain⟨⟨N,p,l,s,t,span⟩,hr,hsm⟩:=read_ev 6 (by omega) (by omega) a0 hold bits a3 a4 a5 hs;obtain⟨x,hx,hcx,_⟩:=made_ev N p l s t span y1 hy1.2 hsm.lo hsm.hi hsm.s0 hsm.s1 hsm.ends;obtain⟨w,s,t,span,rfl,rfl,rfl,rfl,h⟩:=gridOk_of (by decide) hsm;obtain⟨F,hF,hE,hmost⟩:=most16_ev p h;have hcut:=cut16_ev p h hF hE;obtain⟨h1,h2,h3⟩:=big_max h hF;have hx2:=slot_of_cut hcx;have hle:=h1 _ hx2;have hxok:=hcx.ok;have hw0:=h.w0;have hS:SlotCut p w s t span (hasL (slotsF (sideP (bigG w p l s t span) F ((span+1) * w+2) ((span+1) * w)) w 0 ((span+1) * w))):=by
  have hs1:=h.s1;have ht1:=h.t1;refine⟨fun k k0 k1=> ?_,fun k k0 k1=> ?_,fun hh v k hv hk=> ?_⟩
  ·rw[has_slotsF (by omega) (by omega) k0 k1];exact h2.src k k0 k1
  ·rw[has_slotsF (by omega) (by omega) k0 k1];exact h2.snk k k0 k1
  ·rw[has_slotsF (by omega) (by omega) (by omega) (by omega),has_slotsF (by omega) (by omega) (by omega) (by omega)];exact h2.up hh v k hv hk
 have hT:takesL (hasL (slotsF (sideP (bigG w p l s t span) F ((span+1) * w+2) ((span+1) * w)) w 0 ((span+1) * w))) span l=Q.bal (bigG w p l s t span) F (((span+1) * w:Nat):Int):=by
  rw[h3];exact takesL_congr (n:=w) (Int.natCast_nonneg span) (fun v k v0 v1 k0 k1=>has_slotsF v0 v1 k0 k1) (fun x hx=>(h.arcs x hx).1)
 have r1:=cut_of_slot h (ok_slotsF (by omega)) hS;have r2:=cut_of_slot h hxok hx2;have e1:timecut_Check.f w p l s t span (slotsF (sideP (bigG w p l s t span) F ((span+1) * w+2) ((span+1) * w)) w 0 ((span+1) * w))=some (Q.bal (bigG w p l s t span) F (((span+1) * w:Nat):Int),0):=by
  unfold timecut_Check.f;rw[r1,hT]
 have e2:timecut_Check.f w p l s t span x=some (takesL (hasL x) span l,0):=by unfold timecut_Check.f;rw[r2]
 refine Ev.bind awake18_ev (Ev.pos rfl (Ev.bind hr (Ev.bind hmost (Ev.bind hcut (Ev.call e1 (Ev.bind hx (Ev.call e2 ?_)))))));refine Ev.pos rfl (Ev.pos rfl (Ev.pos rfl (Ev.pos rfl (Ev.pos rfl (Ev.done (Yv hle))))))
end Q
end Go.Proofs.Ytjaoknhhoicigaa
