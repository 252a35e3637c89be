/- What the law's row needs of these texts, taken out of them by wip/tool/mini.py: QSoughtLaw QWayRef P69 P82 P87 P107 P122 QBehindDef P131 QReachedLaw QBehindWalk P132 P133 P134 P70. -/
import Derived.Test.YtkcpanpdipmmmaaMioleai
import Derived.Test.YtkcpanpdipmmmaaMdcalel
import Derived.Test.YtkcpanpdipmmmaaMkknlne
import Derived.Deep.RegionHeld3
import Derived.Deep.DeepCutAuto
import Derived.Test.YtkcpanpdipmmmaaMoafmie
set_option linter.unusedVariables false
set_option linter.unusedSimpArgs false
open Go.RowKit Go.Proofs.YtkcpanpdipmmmaaW.PrintWords Go.Proofs.YtkcpanpdipmmmaaW.PrintLast Go.Proofs.YtkcpanpdipmmmaaW.PrintMore
namespace Go.Proofs.Ytkcpanpdipmmmaa
namespace H
open P Q
def esL (l:List S74) (L:List S38) (u:Nat):List S38:=L.filter fun e=>decide (stFrom l e=(u:Int))
def bfL (l:List S74) (L:List S38) (n s:Nat):List (Fd S38):=bfsN (toP l) (esL l L) z38 n s
theorem es_same (l:List S74) (F:List Int) (u:Nat) (k:Nat):(stL l u k).filter (fun e=>decide (0<stRoom l F e))=(stepsR l F k).filter (fun e=>decide (stFrom l e=(u:Int))):=by
 induction k with
 |zero=>rfl
 |succ k ih=>
  unfold stL stepsR;rw[List.filter_append,List.filter_append,List.filter_append,List.filter_append,ih];congr 1
  ·congr 1
   have e1:stRoom l F ⟨(k:Int),false⟩=(rd_T74 l k).f2 - F.getD k 0:=by unfold stRoom;simp
   have e2:stFrom l ⟨(k:Int),false⟩=eFrom (rd_T74 l k):=rfl;by_cases h1:eFrom (rd_T74 l k)=(u:Int)<;>by_cases h2:F.getD k 0<(rd_T74 l k).f2
   ·rw[Yx h1,Yx h2,List.filter_cons,List.filter_cons,Yx (by rw[decide_eq_true_eq,e1];omega),Yx (by rw[decide_eq_true_eq,e2];exact h1)];rfl
   ·rw[Yx h1,Yy h2,List.filter_cons,Yy (by rw[decide_eq_true_eq,e1];omega)];rfl
   ·rw[Yy h1,Yx h2,List.filter_cons,Yy (by rw[decide_eq_true_eq,e2];exact h1)];rfl
   ·rw[Yy h1,Yy h2];rfl
  ·have e1:stRoom l F ⟨(k:Int),true⟩=F.getD k 0:=by unfold stRoom;simp
   have e2:stFrom l ⟨(k:Int),true⟩=eTo (rd_T74 l k):=rfl;by_cases h1:eTo (rd_T74 l k)=(u:Int)<;>by_cases h2:0<F.getD k 0
   ·rw[Yx h1,Yx h2,List.filter_cons,List.filter_cons,Yx (by rw[decide_eq_true_eq,e1];omega),Yx (by rw[decide_eq_true_eq,e2];exact h1)];rfl
   ·rw[Yx h1,Yy h2,List.filter_cons,Yy (by rw[decide_eq_true_eq,e1];omega)];rfl
   ·rw[Yy h1,Yx h2,List.filter_cons,Yy (by rw[decide_eq_true_eq,e2];exact h1)];rfl
   ·rw[Yy h1,Yy h2];rfl
theorem bf_same {l:List S74} {F:List Int} {n:Nat} (hr:Right l F n) (s:Nat):bfL l (stepsR l F F.length) n s=bfP l F n s:=by
 unfold bfL bfP;have:esL l (stepsR l F F.length)=esP l F:=by
  funext u;unfold esL esP;rw[hr.len];exact(es_same l F u l.length).symm
 rw[this]
def hasI (X:List Int) (a:Int) (i:Nat):Int:=if a∈X.drop i then((i+(X.drop i).idxOf a:Nat):Int) else -1
theorem has_l0 (X:List Int) (Y:List S38) (a:Int) (hl:X.length≤1000000) (d:Nat): ∀ i:Nat,i+d=X.length→Ev (fun k=>ebbtideref08_found_has.l0 k a (i:Int) X Y) (hasI X a i):=by
 induction d with
 |zero=>
  intro i hi;refine Ev.succ ?_;simp only[ebbtideref08_found_has.l0];refine Ev.neg (by omega) ?_;exact Ev.done (by unfold hasI;rw[List.drop_of_length_le (by omega),Yy (by simp)])
 |succ d ih=>
  intro i hi;refine Ev.succ ?_;simp only[ebbtideref08_found_has.l0];refine Ev.pos (by omega) ?_;refine Ev.pos (by omega) ?_;have hd:=drop_getD X i 0 (by omega);rw[rd_nat];refine Ev.ite (fun g=> ?_) (fun g=> ?_)
  ·exact Ev.done (by unfold hasI;rw[hd,g,Yx List.mem_cons_self,List.idxOf_cons_self];rfl)
  ·rw[wrap_succ (n:=X.length) (by omega) (by omega)]
   refine Ev.eq (ih (i+1) (by omega)) ?_;unfold hasI;rw[hd];by_cases hm:a∈X.drop (i+1)
   ·have e3:(X.getD i 0::X.drop (i+1)).idxOf a=(X.drop (i+1)).idxOf a+1:=by
     rw[List.idxOf_cons];have:(X.getD i 0 == a)=false:=beq_eq_false_iff_ne.2 g;rw[this];rfl
    rw[Yx hm,Yx (List.mem_cons_of_mem _ hm),e3];omega
   ·rw[Yy hm,Yy (by intro h;rcases List.mem_cons.1 h with h|h;exact g h.symm;exact hm h)]
theorem has_ev (X:List Int) (Y:List S38) (a:Int) (hl:X.length≤1000000):Ev (fun k=>ebbtideref08_found_has.f k X Y a) (hasI X a 0):=by
 unfold ebbtideref08_found_has.f;exact has_l0 X Y a hl X.length 0 (by omega)
def nX (st:List (Fd S38)):List Int:=(nodes st).map fun v:Nat=>(v:Int)
def bY (st:List (Fd S38)):List S38:=st.map Fd.by_
theorem nX_len (st:List (Fd S38)):(nX st).length=st.length:=by simp[nX,nodes]
theorem bY_len (st:List (Fd S38)):(bY st).length=st.length:=by simp[bY]
theorem nX_snoc (st:List (Fd S38)) (x:Fd S38):nX (st ++ [x])=nX st ++ [(x.v:Int)]:=by simp[nX,nodes]
theorem bY_snoc (st:List (Fd S38)) (x:Fd S38):bY (st ++ [x])=bY st ++ [x.by_]:=by simp[bY]
theorem mem_nX {st:List (Fd S38)} {v:Nat} :(v:Int)∈nX st↔v∈nodes st:=by
 unfold nX;rw[List.mem_map];constructor
 ·rintro⟨u,hu,e⟩
  have:u=v:=by omega
  rw[← this];exact hu
 ·intro h;exact⟨v,h,rfl⟩
theorem hasI_neg {st:List (Fd S38)} {v:Nat} :hasI (nX st) (v:Int) 0<0↔v ∉ nodes st:=by
 unfold hasI;rw[List.drop_zero];by_cases h:v∈nodes st
 ·rw[Yx (mem_nX.2 h)]
  constructor
  ·intro h2;omega
  ·intro h2;exact absurd h h2
 ·rw[Yy (fun h2=>h (mem_nX.1 h2))]
  simp[h]
theorem nX_get {st:List (Fd S38)} {i:Nat} {x:Fd S38} (h:st[i]? =some x):rd (nX st) (i:Int)=(x.v:Int):=by
 rw[rd_nat,List.getD_eq_getElem?_getD];unfold nX nodes;rw[List.getElem?_map,List.getElem?_map,h];rfl
structure StepsOk (l:List S74) (n:Nat) (L:List S38):Prop where
 ends:ends l n
 arcs:l.length≤200
 of: ∀ s,s∈L→StepOf l s
 len:L.length≤400
section
variable {l:List S74} {n:Nat} {L:List S38}
theorem StepsOk.to_in (h:StepsOk l n L) {s:S38} (hs:s∈L):0≤stTo l s∧stTo l s<n:=by
 obtain⟨i,h1,h2⟩:=h.of s hs;have:=h.ends i h1;unfold stTo;rw[h2];split
 ·exact this.1
 ·exact this.2
theorem esL_to (h:StepsOk l n L): ∀ (u:Nat) (e:S38),e∈esL l L u→toP l e<n:=by
 intro u e he;have:=h.to_in (List.mem_filter.1 he).1;unfold toP;omega
theorem esL_fr: ∀ (u:Nat) (e:S38),e∈esL l L u→frP l e=u:=by
 intro u e he;have h:=Yu (List.mem_filter.1 he).2;unfold frP;rw[h,Int.toNat_natCast]
theorem rfrom_ok (h:StepsOk l n L) {s:S38} (hs:s∈L) (a:Int) (b:Bool):ebbtideref07_From.f a b l s.f0 s.f1=some (stFrom l s):=by
 obtain⟨i,h1,h2⟩:=h.of s hs;unfold ebbtideref07_From.f stFrom eFrom eTo;rw[h2];cases s.f1<;>simp[h1]
theorem rto_ok (h:StepsOk l n L) {s:S38} (hs:s∈L) (a:Int) (b:Bool):ebbtideref07_To.f a b l s.f0 s.f1=some (stTo l s):=by
 obtain⟨i,h1,h2⟩:=h.of s hs;unfold ebbtideref07_To.f stTo eFrom eTo;rw[h2];cases s.f1<;>simp[h1]
theorem sought_l1 (h:StepsOk l n L) (hn:n≤50) (a:Int) (b:Bool) {s i:Nat} (hs:s<n) {x:Fd S38} {R:List Int × List S38} (d:Nat): ∀ (j:Nat) (stj:List (Fd S38)),j+d=L.length→Fds (frP l) (toP l) (esL l L) s stj→stj[i]? =some x→(∀ y,y∈stj→y.lv≤x.lv+1)→
  Ev (fun k=>ebbtideref08_sought.l0 k L ((i+1:Nat):Int) a b l (nX (((L.drop j).filter fun e=>decide (stFrom l e=(x.v:Int))).foldl (vis (toP l) x.lv) stj)) (bY (((L.drop j).filter fun e=>decide (stFrom l e=(x.v:Int))).foldl (vis (toP l) x.lv) stj))) R→
  Ev (fun k=>ebbtideref08_sought.l1 k L (i:Int) (j:Int) a b l (nX stj) (bY stj)) R:=by
 induction d with
 |zero=>
  intro j stj hj hf hx hm he;have hil:=(List.getElem?_eq_some_iff.1 hx).1;have hln:=fds_len hf (esL_to h) hs;rw[List.drop_of_length_le (by omega)] at he;refine Ev.succ ?_;simp only[ebbtideref08_sought.l1];refine Ev.neg (by omega) ?_;rw[wrap_succ (n:=51) (by omega) (by omega)];exact he
 |succ d ih=>
  intro j stj hj hf hx hm he;have hil:=(List.getElem?_eq_some_iff.1 hx).1;have hln:=fds_len hf (esL_to h) hs;have hll:=h.len;refine Ev.succ ?_;simp only[ebbtideref08_sought.l1];refine Ev.pos (by omega) ?_;refine Ev.pos (by omega) ?_;have hd:=drop_getD L j z38 (by omega);obtain⟨e,hee⟩: ∃ e,e=L.getD j z38:=⟨_,rfl⟩;have hr:rd_T38 L (j:Int)=e:=by unfold rd_T38;rw[Int.toNat_natCast,hee]
  have hem:e∈L:=by rw[hee];exact getD_mem (by omega)
  rw[hr];rw[hd, ← hee,List.filter_cons] at he;refine Ev.call (rfrom_ok h hem a b) ?_;refine Ev.pos (by omega) ?_;refine Ev.pos (by rw[nX_len];omega) ?_;rw[nX_get hx,wrap_succ (n:=L.length) (by omega) (by omega)];refine Ev.ite (fun g=> ?_) (fun g=> ?_)
  ·rw[Yx (by simpa using g),List.foldl_cons] at he
   have hto:=h.to_in hem;have htp:stTo l e=((toP l e:Nat):Int):=by unfold toP;omega
   refine Ev.call (rto_ok h hem a b) ?_;rw[htp];refine Ev.bind (has_ev (nX stj) (bY stj) _ (by rw[nX_len];omega)) ?_;refine Ev.ite (fun g2=> ?_) (fun g2=> ?_)
   ·have hnm:=hasI_neg.1 g2
    have hv:vis (toP l) x.lv stj e=stj ++ [⟨toP l e,e,x.lv+1⟩]:=by unfold vis;rw[Yy hnm]
    obtain⟨f1,f2⟩:=hf.vis hx hm (List.mem_filter.2 ⟨hem,by simpa using g⟩);rw[hv] at f1 f2 he;refine Ev.call (rto_ok h hem a b) ?_;rw[htp];refine Ev.pos (by rw[nX_len];omega) ?_;refine Ev.pos (by rw[bY_len];omega) ?_;have h2:=ih (j+1) (stj ++ [⟨toP l e,e,x.lv+1⟩]) (by omega) f1 (by rw[List.getElem?_append_left hil];exact hx) f2 he;rw[nX_snoc,bY_snoc] at h2;exact h2
   ·have hmm:toP l e∈nodes stj:=Classical.byContradiction fun hc=>g2 (hasI_neg.2 hc)
    have hv:vis (toP l) x.lv stj e=stj:=by unfold vis;rw[Yx hmm]
    rw[hv] at he;exact ih (j+1) stj (by omega) hf hx hm he
  ·rw[Yy (by simpa using g)] at he
   exact ih (j+1) stj (by omega) hf hx hm he
theorem sought_l0 (h:StepsOk l n L) (hn:n≤50) (a:Int) (b:Bool) {s:Nat} (hs:s<n) (d:Nat): ∀ (i:Nat) (st:List (Fd S38)),Upto (frP l) (toP l) (esL l L) s i st→i+d=n→i≤st.length→
  Ev (fun k=>ebbtideref08_sought.l0 k L (i:Int) a b l (nX st) (bY st)) (nX (bfs (toP l) (esL l L) d i st),bY (bfs (toP l) (esL l L) d i st)):=by
 induction d with
 |zero=>
  intro i st hu hi hil;have hln:=fds_len hu.fds (esL_to h) hs;refine Ev.succ ?_;simp only[ebbtideref08_sought.l0];refine Ev.neg (by rw[nX_len];omega) ?_;exact Ev.now _
 |succ d ih=>
  intro i st hu hi hil;unfold bfs;cases hx:st[i]? with
  |none=>
   have:=List.getElem?_eq_none_iff.1 hx;refine Ev.succ ?_;simp only[ebbtideref08_sought.l0];refine Ev.neg (by rw[nX_len];omega) ?_;exact Ev.now _
  |some x=>
   have hlt:=(List.getElem?_eq_some_iff.1 hx).1;refine Ev.succ ?_;simp only[ebbtideref08_sought.l0];refine Ev.pos (by rw[nX_len];omega) ?_;refine sought_l1 h hn a b hs L.length 0 st (by omega) hu.fds hx (hu.most x hx) ?_;rw[List.drop_zero];have hnx:=hu.next hx
   have hpl:i+1≤(proc (toP l) (esL l L) st x).length:=by
    obtain⟨r,hr⟩:=fold_pre (toP l) x.lv (esL l L x.v) st;unfold proc;rw[hr,List.length_append];omega
   exact ih (i+1) (proc (toP l) (esL l L) st x) hnx (by omega) hpl
theorem sought_ev (h:StepsOk l n L) (hn:n≤50) (b:Bool) {s:Nat} (hs:s<n):Ev (fun k=>ebbtideref08_sought.f k (n:Int) b l (s:Int) L) (nX (bfL l L n s),bY (bfL l L n s)):=by
 unfold ebbtideref08_sought.f;refine Ev.pos (by simp) ?_;refine Ev.pos (by simp) ?_;exact sought_l0 h hn (n:Int) b hs n 0 [⟨s,z38,0⟩] (upto_start _ _ _ _ _) (by omega) (Nat.zero_le _)
end
end H
namespace H
open P Q
attribute [local irreducible] wpQuiet
def wayRes (l:List S74) (L:List S38) (n s:Nat) (t:Int):List S38 × Bool:=if t∈nX (bfL l L n s) then(wayL (frP l) (bfL l L n s) s t.toNat,true) else([],false)
theorem nX_nodup {st:List (Fd S38)} (h:(nodes st).Nodup):(nX st).Nodup:=by
 unfold nX;refine List.pairwise_map.2 (h.imp fun {a b} hab e=>hab ?_);omega
theorem hasI_at {st:List (Fd S38)} (h:(nodes st).Nodup) {i:Nat} {x:Fd S38} (hx:st[i]? =some x):hasI (nX st) (x.v:Int) 0=(i:Int):=by
 have hil:=(List.getElem?_eq_some_iff.1 hx).1;have hm:(x.v:Int)∈nX st:=mem_nX.2 (List.mem_map_of_mem (List.mem_of_getElem? hx));unfold hasI;rw[List.drop_zero,Yx hm,Nat.zero_add];have h1:=List.idxOf_lt_length_of_mem hm;have h2:(nX st)[(nX st).idxOf (x.v:Int)]=(x.v:Int):=List.getElem_idxOf h1;have hi:i<(nX st).length:=by rw[nX_len];exact hil
 have h3:(nX st)[i]'hi=(x.v:Int):=by
  have h4:=nX_get hx;rw[rd_nat,List.getD_eq_getElem?_getD,List.getElem?_eq_getElem hi] at h4;exact h4
 have hp:=List.pairwise_iff_getElem.1 (nX_nodup h);rcases Nat.lt_trichotomy ((nX st).idxOf (x.v:Int)) i with g|g|g
 ·exact absurd (h2.trans h3.symm) (hp _ _ h1 hi g)
 ·rw[g]
 ·exact absurd (h3.trans h2.symm) (hp _ _ hi h1 g)
def wayOk (n:Int) (l:List S74) (L:List S38) (s:Int):Bool:=
 decide (0≤s) && decide (s<n) && decide (n≤50) && decide (l.length≤200) && decide (L.length≤400) && (l.all fun a=>decide (0≤a.f0) && decide (a.f0<n) && decide (0≤a.f1) && decide (a.f1<n)) && (L.all fun e=>decide (0≤e.f0) && decide (e.f0<(l.length:Int)))
theorem wayOk_iff {n:Nat} {l:List S74} {L:List S38} {s:Nat} :wayOk n l L s=true↔StepsOk l n L∧s<n∧n≤50:=by
 unfold wayOk;simp only[Bool.and_eq_true,decide_eq_true_eq,List.all_eq_true];constructor
 ·rintro⟨⟨⟨⟨⟨⟨_,h1⟩,h2⟩,h3⟩,h4⟩,h5⟩,h6⟩
  refine⟨⟨?_,h3,?_,h4⟩,by omega,by omega⟩
  ·intro i hi
   have hg:=h5 _ (List.getElem_mem hi);have e1:rd_T74 l i=l[i]:=by rw[rdArc_nat,List.getD_eq_getElem?_getD,List.getElem?_eq_getElem hi];rfl
   unfold eFrom eTo;rw[e1];omega
  ·intro e he
   have:=h6 e he;exact⟨e.f0.toNat,by omega,by omega⟩
 ·rintro⟨h,h1,h2⟩
  refine⟨⟨⟨⟨⟨⟨by omega,by omega⟩,by omega⟩,h.arcs⟩,h.len⟩,?_⟩,?_⟩
  ·intro a ha
   obtain⟨i,hi,rfl⟩:=List.mem_iff_getElem.1 ha;have hg:=h.ends i hi;have e1:rd_T74 l i=l[i]:=by rw[rdArc_nat,List.getD_eq_getElem?_getD,List.getElem?_eq_getElem hi];rfl
   unfold eFrom eTo at hg;rw[e1] at hg;omega
  ·intro e he
   obtain⟨i,h3,h4⟩:=h.of e he;omega
theorem y_cells {w:World} {base g cap:Nat} {ok:Nat→Prop} {B:List S38} (h:Kd.R k38 38 w base ok (.slice (some ⟨g,0,none⟩) B.length cap) B) {i:Nat} {x:S38} (hx:B[i]? =some x):
  w.cell? ⟨g,i * 2,none⟩=some (.int .i64 x.f0)∧w.cell? ⟨g,i * 2+1,none⟩=some (.bool x.f1):=by
 have hi:=(List.getElem?_eq_some_iff.1 hx).1;obtain⟨c,_,hM,hc,_⟩:=Kd.R_elem h z38 (i:Int) (by omega) (by omega);have hgd:B.getD (i:Int).toNat z38=x:=by rw[Int.toNat_natCast,List.getD_eq_getElem?_getD,hx];rfl
 rw[hgd] at hM;obtain rfl:=k38_openM hM;exact⟨hc 0 _ rfl,hc 1 _ rfl⟩
theorem way_nat (l:List S74) (L:List S38) (n s t:Nat):wayRes l L n s (t:Int)=if t∈nodes (bfL l L n s) then(wayL (frP l) (bfL l L n s) s t,true) else([],false):=by
 unfold wayRes;by_cases h:t∈nodes (bfL l L n s)
 ·rw[Yx (mem_nX.2 h),Yx h,Int.toNat_natCast]
 ·rw[Yy (fun g=>h (mem_nX.1 g)),Yy h]
set_option maxHeartbeats 2000000 in
set_option maxRecDepth 100000 in
theorem way_ref (n0:Nat) (Zb:Bool) (A2:Option Addr) (c2:Nat) (l:List S74) (s:Nat) (t:Int) (A3:Option Addr) (c3:Nat) (L:List S38) (w:World)
  (hL:StepsOk l n0 L) (hs:s<n0) (hn50:n0≤50) (h2:Kd.C k74 w A2 l.length l) (hc2:l.length≤c2) (h3:Kd.C k38 w A3 L.length L) (hc3:L.length≤c3):
  Calls Try.prog 109 #[.agg #[.int .i64 n0, .bool Zb, .slice A2 l.length c2], .int .i64 (s:Int), .int .i64 t, .slice A3 L.length c3] w fun e w'=> ∃ v:Value,e= .returned (.tuple #[v, .bool (wayRes l L n0 s t).2])∧Kd.R k38 38 w' w.heap.size (fun _=>True) v (wayRes l L n0 s t).1∧Below w.heap.size w w':=by
 have hu24:=Try.underlying24;have hu161:=Try.underlying161;have hu38:=Try.underlying38;obtain⟨st,hst⟩: ∃ st_,st_=bfL l L n0 s:=⟨_,rfl⟩;have hF:Fds (frP l) (toP l) (esL l L) s st:=by rw[hst];exact(bfsN_upto (esL_to hL) hs).fds
 have hstl:st.length≤n0:=fds_len hF (esL_to hL) hs;have HF:=Ya hF;have HST:=Ya hst;obtain⟨K1,hK1⟩:=sought_ev hL hn50 Zb hs;obtain⟨K2,hK2⟩:=has_ev (nX (bfL l L n0 s)) (bY (bfL l L n0 s)) t (by rw[nX_len, ← hst];omega);have hs1:=hK1 K1 (Nat.le_refl _);have hh1:=hK2 K2 (Nat.le_refl _);rw[← hst] at hs1 hh1;obtain⟨K,hk⟩: ∃ k_,k_=K1:=⟨_,rfl⟩;obtain⟨KH,hkh⟩: ∃ k_,k_=K2:=⟨_,rfl⟩;rw[← hk] at hs1;rw[← hkh] at hh1;have HSO:=Ya hs1;have HH:=Ya hh1;have XL:Aside0 (0<st.length):=⟨by obtain⟨x,r,h1,_⟩:=hF.head;rw[h1];simp⟩;clear hK1 hK2 hk hkh hs1 hh1 hF hst K1 K2;have HL:=Ya hL;have HC2:=Ya hc2;have HC3:=Ya hc3;have H2:=Ya h2;have H3:=Ya h3;have HB:=Ya (Yo w.heap.size w);clear hL h2 h3 hc2 hc3;go_enter Try.func109,Try.ntmps109;go_upto_region 2 with (first|((with_reducible refine gate_dst (N:=4) rfl ?_);refine Yz ?hg (N:=4) ?hd (cs:= #[.int .i64 n0, .bool Zb, .slice A2 l.length c2]) (t:=24) ?hr ?_;(case hd=>rfl);(case hg=>rfl);(case hr=>first|(go_simp;done)|(go_simp;rfl));intro g3 hg w5 Zf hb;have n0_:=Ya (Yk HB.out hb);have B3:=Ya Zf;clear HB;have HB:=n0_;have GE3:Aside0 (w.heap.size≤g3):=⟨Nat.le_of_eq hg.symm⟩;clear n0_ hb Zf hg;have c0:w5.cell? ⟨g3,0,none⟩=some (.int .i64 n0):=(Yc B3.out 0).trans rfl;have c1:w5.cell? ⟨g3,1,none⟩=some (.bool Zb):=(Yc B3.out 1).trans rfl;have c2_:w5.cell? ⟨g3,2,none⟩=some (.slice A2 l.length c2):=(Yc B3.out 2).trans rfl)|(go_at_call 146;refine(ebbtideref08_sought.calls K (n0:Int) Zb A2 c2 l (s:Int) A3 c3 L _ _ _ (Yt H2.out HB.out) HC2.out (Yt H3.out HB.out) HC3.out HSO.out).mono ?_;rintro e_ w6 ⟨vx,vy,rfl,hx,hy,hb⟩;obtain⟨gx,cx,rfl,hgx,hgx2,cellsx,hcx⟩:=Kd.R_form hx (by have:=XL.out;rw[nX_len];omega);obtain⟨gy,cy,rfl,hgy,hgy2,cellsy,hcy⟩:=Kd.R_form hy (by have:=XL.out;rw[bY_len];omega);clear hcx hcy cellsx cellsy;have HX:=Ya hx;have HY:=Ya hy;have HGX:Aside0 (g3<gx∧g3<gy∧gx<w6.heap.size∧gy<w6.heap.size):=⟨by have:=blk_lt B3.out;omega⟩;have m0_:=Ya (Yk HB.out hb);have m1_:=Ya (Yn B3.out hb);clear HB B3 hx hy hb hgx hgx2 hgy hgy2 c0 c1 c2_;have HB:=m0_;have B3:=m1_;clear m0_ m1_)|fail)
 have HW:Aside0 ((w6.alloc (Obj.cells #[.slice (some ⟨gx,0,none⟩) (nX st).length cx, .slice (some ⟨gy,0,none⟩) (bY st).length cy] 161)).heap[w6.heap.size]? =some (.cells #[.slice (some ⟨gx,0,none⟩) (nX st).length cx, .slice (some ⟨gy,0,none⟩) (bY st).length cy] 161 (0,0))):=⟨heap_alloc_new _ _⟩;have h_:=HB.out.size;have m0_:=Ya (Ye HB.out (Obj.cells #[.slice (some ⟨gx,0,none⟩) (nX st).length cx, .slice (some ⟨gy,0,none⟩) (bY st).length cy] 161));have m1_:=Ya (Yn B3.out (Ye (Yo _ _) (Obj.cells #[.slice (some ⟨gx,0,none⟩) (nX st).length cx, .slice (some ⟨gy,0,none⟩) (bY st).length cy] 161)));have m2_:=Ya (Ys HX.out (Ye (Yo _ _) (Obj.cells #[.slice (some ⟨gx,0,none⟩) (nX st).length cx, .slice (some ⟨gy,0,none⟩) (bY st).length cy] 161)));have m3_:=Ya (Ys HY.out (Ye (Yo _ _) (Obj.cells #[.slice (some ⟨gx,0,none⟩) (nX st).length cx, .slice (some ⟨gy,0,none⟩) (bY st).length cy] 161)));clear HB B3 HX HY h_;have HB:=m0_;have B3:=m1_;have HX:=m2_;have HY:=m3_;clear m0_ m1_ m2_ m3_;generalize w6.alloc _=w7 at *;generalize w6.heap.size=g10 at *;obtain⟨t0,t1⟩:w7.cell? ⟨g10,0,none⟩=some (.slice (some ⟨gx,0,none⟩) (nX st).length cx)∧w7.cell? ⟨g10,1,none⟩=some (.slice (some ⟨gy,0,none⟩) (bY st).length cy):=⟨(Yc HW.out 0).trans rfl,(Yc HW.out 1).trans rfl⟩;by_cases hmem:t∈nX st
 ·obtain⟨tn,rfl⟩: ∃ tn:Nat,t=tn:=by
   obtain⟨v,_,hv⟩:=List.mem_map.1 hmem;exact⟨v,hv.symm⟩
  have hmem:=mem_nX.1 hmem;have e0:decide (hasI (nX st) (tn:Int) 0<0)=false:=Yw (fun h=>hasI_neg.1 h hmem);obtain⟨x0,hx0,hxt⟩:=List.mem_map.1 hmem;have HX0:=Ya hx0;have HXT:=Ya hxt;have HWR:Aside0 (wayRes l L n0 s (tn:Int)=(wayL (frP l) st s tn,true)):=⟨by rw[way_nat, ← HST.out,Yx hmem]⟩;have HBK0:Aside0 ((backL (frP l) st s x0.lv x0.v).reverse=wayL (frP l) st s tn):=⟨by
   unfold wayL;rw[← HXT.out];have hlv:=lv_lt HF.out HX0.out;have h_:=backL_more HF.out esL_fr [] x0.lv HX0.out (Nat.le_refl _) (k':=st.length) (Nat.le_of_lt hlv);rw[List.append_nil] at h_;rw[h_]⟩
  clear hx0 hxt hmem;go_wp2_with (first|(go_at_call 147;refine(ebbtideref08_found_has.calls KH _ cx (nX st) _ cy (bY st) _ _ _ (Kd.R_reads' HX.out).2.2 (Kd.R_reads' HX.out).2.1 (Kd.R_reads' HY.out).2.2 (Kd.R_reads' HY.out).2.1 HH.out).mono ?_;rintro e_ w8 ⟨rfl,hb⟩;have m0_:=Ya (Yk HB.out hb);have m1_:=Ya (Yn B3.out hb);have m2_:=Ya (Yn HW.out hb);have m3_:=Ya (Ys HX.out hb);have m4_:=Ya (Ys HY.out hb);clear HB B3 HW HX HY hb;have HB:=m0_;have B3:=m1_;have HW:=m2_;have HX:=m3_;have HY:=m4_;clear m0_ m1_ m2_ m3_ m4_;clear t0 t1)|fail);have h8:=HB.out.size;go_loopw [11,12] (fun v11 v12 w'=> ∃ (x:Fd S38) (O:List S38),v12= .int .i64 x.v∧x∈st∧Aside0 (O ++ backL (frP l) st s x.lv x.v=backL (frP l) st s x0.lv x0.v)∧O.length+x.lv≤50∧Aside0 (Kd.R k38 38 w' w8.heap.size (fun _=>True) v11 O)∧Aside0 (Below w8.heap.size w8 w')) (fun _ v12 _=>((dOf n0 st).getD (intOf v12).toNat 0).toNat)
  case atStart=>exact⟨x0,[],by rw[HXT.out],HX0.out,⟨rfl⟩,by have:=lv_lt HF.out HX0.out;show 0+_≤50;omega,⟨Kd.R_nil _ _ _ _ _⟩,⟨Yo _ _⟩⟩
  case round=>
   obtain⟨x,O,rfl,hx,HBK,hlen,HO,HC⟩:=hrel;have hxn:x.v<n0:=fds_lt HF.out (esL_to HL.out) hs _ (List.mem_map_of_mem hx);by_cases hxs:x.v=s
   ·have e1:((x.v:Int) != (s:Int))=false:=by rw[hxs];simp
    have hO:O=backL (frP l) st s x0.lv x0.v:=by
     have h_:=HBK.out;rw[hxs,back_end,List.append_nil] at h_;exact h_
    have HOE:=Ya hO;have hOl:O.length≤50:=by omega
    clear hxs hO hlen;obtain⟨A11,c11,e11⟩:=Kd.R_slice HO.out;subst e11;have hwr:IntKind.i64.wrap ((O.length:Int) - 1)=(O.length:Int) - 1:=IntWalk.i64_in _ (by omega);generalize wr=wE at *;go_wp2_with fail;have m0_:=Ya (Yk HB.out HC.out);clear HB HC hwr e1;have HB:=m0_;clear m0_;go_loopw [14,15] (fun v14 v15 w'=> ∃ (q:Int) (U:List S38),v15= .int .i64 q∧(-1≤q∧q<(O.length:Int))∧Aside0 (U=(O.drop (q+1).toNat).reverse)∧Aside0 (Kd.R k38 38 w' wE.heap.size (fun _=>True) v14 U)∧Aside0 (Below wE.heap.size wE w')) (fun _ v15 _=>(intOf v15+1).toNat)
    case atStart=>exact⟨(O.length:Int) - 1,[],rfl,⟨by omega,by omega⟩,⟨by rw[show ((O.length:Int) - 1+1).toNat=O.length by omega,List.drop_length];rfl⟩,⟨Kd.R_nil _ _ _ _ _⟩,⟨Yo _ _⟩⟩
    case round=>
     obtain⟨q,U,rfl,⟨hq1,hq2⟩,HU,HV,HC⟩:=hrel;by_cases hq:0≤q
     ·have e1:decide (0≤q)=true:=Yv hq
      obtain⟨g,cap,ev,_⟩:=Kd.R_form HO.out (by omega);injection ev with ev1 _ ev2
      subst ev1;subst ev2;have hqi:O[q.toNat]? =some O[q.toNat]:=List.getElem?_eq_getElem (by omega);generalize O[q.toNat]=e at hqi;obtain⟨b0,b1⟩:=y_cells (Ys HO.out HC.out) hqi;have hwr:IntKind.i64.wrap (q - 1)=q - 1:=IntWalk.i64_in _ (by omega);have HU2:Aside0 (U ++ [e]=(O.drop (q - 1+1).toNat).reverse):=⟨by
       have hd:O.drop q.toNat=e::O.drop (q.toNat+1):=by
        obtain⟨h1,h2⟩:=List.getElem?_eq_some_iff.1 hqi;rw[List.drop_eq_getElem_cons h1,h2]
       rw[show (q - 1+1).toNat=q.toNat by omega,hd,List.reverse_cons,HU.out,show (q+1).toNat=q.toNat+1 by omega]⟩
      have hUl:U.length≤50:=by rw[HU.out,List.length_reverse,List.length_drop];omega
      clear hqi HU;go_wp2_with (first|((with_reducible refine gate_builtin (b:= .append) (xs:= #[.tmp 49, .tmp 54]) rfl ?_);at_builtin;refine Kd.R_append k38 (w0:=wE) wE.heap.size rfl (.tmp 49) (.tmp 54) 34 38 (.agg #[(.int .i64 0),(.bool false)]) 16 rfl Try.underlying34 info38 rfl (by decide) (by omega) u14 U e [.int .i64 e.f0, .bool e.f1] (fun _=>True) (fun _=>False) rfl rfl ?aP (fun _ hk=>hk.elim) ?aF ?aO ?aB ?aS ?aL ?_;(case aP=>exact k38_mkM _ _ _ e);(case aF=>exact(fun k hk=>trivial));(case aO=>exact HV.out);(case aB=>exact HC.out);(case aS=>exact HC.out.size);(case aL=>omega);intro v1 w9 ho hb hg hat;have m0_:=Ya ho;have m1_:=Ya hb;clear HV HC ho hb hg hat b0 b1;have HV:=m0_;have HC:=m1_;clear m0_ m1_)|fail);go_roundw
      case rel=>exact⟨q - 1,U ++ [e],rfl,⟨by omega,by omega⟩,HU2,HV,HC⟩
      case measure=>simp[intOf]<;>omega
     ·have e1:decide (0≤q)=false:=Yw hq
      go_wp2_with fail;go_ret2;rw[HWR.out];refine⟨_,rfl,?_,Yk HB.out HC.out⟩;have h_:=HV.out;rw[HU.out,show (q+1).toNat=0 by omega,List.drop_zero,HOE.out,HBK0.out] at h_;exact Kd.R_lower h_ HB.out.size
   ·have e1:((x.v:Int) != (s:Int))=true:=by rw[bne_iff_ne];omega
    rcases HF.out.mem_lv hx with ⟨h1,_⟩|⟨_,hto,z,hz,hze,hlv⟩
    ·exact absurd h1 hxs
    obtain⟨i,hi⟩:=List.getElem?_of_mem hx;have hbk:backL (frP l) st s x.lv x.v=x.by_::backL (frP l) st s z.lv z.v:=by
     rw[hlv,backL,Yy hxs,fnd_of HF.out.nodup hx];show x.by_::_=_;rw[esL_fr _ _ hze]
    have hbi:(bY st)[i]? =some x.by_:=by unfold bY;rw[List.getElem?_map,hi];rfl
    obtain⟨b0,b1⟩:=y_cells (Ys HY.out HC.out) hbi;have hfm:=rfrom_ok HL.out (List.mem_filter.1 hze).1 (n0:Int) Zb;have hfr:stFrom l x.by_=(z.v:Int):=Yu (List.mem_filter.1 hze).2;rw[hfr] at hfm;obtain⟨K3,hK3⟩:=has_ev (nX st) (bY st) (x.v:Int) (by rw[nX_len];omega);have hh3:=hK3 K3 (Nat.le_refl _);rw[hasI_at HF.out.nodup hi] at hh3;obtain⟨k3,hk3⟩: ∃ k_,k_=K3:=⟨_,rfl⟩;rw[← hk3] at hh3;have HH3:=Ya hh3;obtain⟨e,hee⟩: ∃ e_,e_=x.by_:=⟨_,rfl⟩;rw[← hee] at b0 b1 hfm hbk;have HFM:=Ya hfm;have HBK2:Aside0 ((O ++ [e]) ++ backL (frP l) st s z.lv z.v=backL (frP l) st s x0.lv x0.v):=⟨by rw[← HBK.out,hbk,List.append_assoc];rfl⟩;have HZ:=Ya hz;have hl2:(O ++ [e]).length+z.lv≤50:=by rw[List.length_append,List.length_singleton];omega
    have HL2:=Ya hl2;have hOl:O.length≤50:=by omega
    have hmz:((dOf n0 st).getD z.v 0).toNat<((dOf n0 st).getD x.v 0).toNat:=by
     rw[dOf_mem HF.out.nodup hz 0 (fds_lt HF.out (esL_to HL.out) hs _ (List.mem_map_of_mem hz)),dOf_mem HF.out.nodup hx 0 hxn];omega
    have HMZ:=Ya hmz;have px:(0:Int)≤(i:Int):=by omega
    have qx:(i:Int)<((bY st).length:Int):=by rw[bY_len];have:=(List.getElem?_eq_some_iff.1 hi).1;omega
    obtain⟨t0,t1⟩:wr.cell? ⟨g10,0,none⟩=some (.slice (some ⟨gx,0,none⟩) (nX st).length cx)∧wr.cell? ⟨g10,1,none⟩=some (.slice (some ⟨gy,0,none⟩) (bY st).length cy):=⟨pw_cell_below HC.out ((Yc HW.out 0).trans rfl),pw_cell_below HC.out ((Yc HW.out 1).trans rfl)⟩;have H5:=Ya (Yt (Kd.R_reads' HX.out).2.2 HC.out);have H6:=Ya (Yt (Kd.R_reads' HY.out).2.2 HC.out);clear hz hze hlv hbk hfr hfm hee HBK hlen hl2 hmz hto hxs hi hbi hh3 hk3 hK3 K3;go_upto_region 7 with fail
    go_cut [13] (fun v13 wx=> ∃ g13:Nat,v13= .pointer (some ⟨g13,0,none⟩)∧wr.heap.size≤g13∧Aside0 (wx.heap[g13]? =some (.cells #[.int .i64 e.f0, .bool e.f1] 38 (0,0)))∧Aside0 (Below wr.heap.size wr wx))
    case first=>
     go_region_held3 (fun w'=>w'.cell? ⟨g10,0,none⟩=some (.slice (some ⟨gx,0,none⟩) (nX st).length cx)∧w'.cell? ⟨g10,1,none⟩=some (.slice (some ⟨gy,0,none⟩) (bY st).length cy)∧w'.cell? ⟨gy,i * 2,none⟩=some (.int .i64 e.f0)∧w'.cell? ⟨gy,i * 2+1,none⟩=some (.bool e.f1))
      (first|((try dsimp only);(refine⟨?_,?_,?_,?_⟩)<;>first|(exact pw_cell_below (below_drew (Yo _ _)) (by assumption))|(exact pw_cell_below (Ye (Yo _ _) _) (by assumption))|(exact pw_cell_below hbr (by assumption))|(exact pw_cell_below (Ye (Yk (below_drew (Yo wr.heap.size wr)) hbr) _) (by assumption))|(exact pw_cell_below (Ye (Yo wr.heap.size wr) _) (by assumption))|(exact pw_cell_below (Yk (below_drew (Ye (Yo wr.heap.size wr) _)) hbr) (by assumption))|(exact pw_cell_below (Yh (Yh (Yk (below_drew (Ye (Yo wr.heap.size wr) _)) hbr) (Nat.le_refl _)) (Nat.le_refl _)) (by assumption)))|go_keep)
      (first|(go_at_call 147;refine(ebbtideref08_found_has.calls k3 _ cx (nX st) _ cy (bY st) (x.v:Int) _ _ ?hX (Kd.R_reads' HX.out).2.1 ?hY (Kd.R_reads' HY.out).2.1 HH3.out).mono ?_;(case hX=>first|exact Yt H5.out (below_drew (Yo _ _))|exact Yt H5.out (below_drew (Ye (Yo _ _) _)));(case hY=>first|exact Yt H6.out (below_drew (Yo _ _))|exact Yt H6.out (below_drew (Ye (Yo _ _) _)));rintro e_ w9 ⟨rfl,hbr⟩;try (have hk9:w9.heap[wr.heap.size]? =some (.cells #[.int .i64 0, .bool false] 38 (0,0)):=(hbr.block _ (by simp)).trans (heap_alloc_new wr (.cells #[.int .i64 0, .bool false] 38));have kc0:=Yc hk9 0;have kc1:=Yc hk9 1;have kz0:=Yf hk9 0;have kz1:=Yf hk9 1)))
     ·go_wp2_with fail
      go_meet;exact⟨w9.heap.size,rfl,by have:=hbr.size;simpa using this,⟨heap_alloc_new w9 _⟩,⟨Ye (Yk (below_drew (Yo wr.heap.size wr)) hbr) _⟩⟩
     ·go_wp2_with fail
      go_meet;exact⟨wr.heap.size,rfl,Nat.le_refl _,⟨(blk_set (blk_set hk9 0 (.int .i64 e.f0)) 1 (.bool e.f1)).trans rfl⟩,⟨Yh (Yh (Yk (below_drew (Ye (Yo wr.heap.size wr) _)) hbr) (Nat.le_refl _)) (Nat.le_refl _)⟩⟩
    case rest=>
     obtain⟨g13,rfl,hg13,HG13,HBC⟩:=hcut;have m0_:=Ya (Yk HC.out HBC.out);have m1_:=Ya (Ys (Kd.R_mono (ok':=fun k=>k≠g13) (Kd.R_bound HO.out) (fun k hk=>by have:=hk.2.2.1;omega)) HBC.out);clear HC HO HBC t0 t1 b0 b1 H5 H6;have HC:=m0_;have HO:=m1_;clear m0_ m1_;have b0:wc.cell? ⟨g13,0,none⟩=some (.int .i64 e.f0):=(Yc HG13.out 0).trans rfl;have b1:wc.cell? ⟨g13,1,none⟩=some (.bool e.f1):=(Yc HG13.out 1).trans rfl;go_wp2_with (first|((with_reducible refine gate_builtin (b:= .append) (xs:= #[.tmp 35, .tmp 37]) rfl ?_);at_builtin;refine Kd.R_append k38 (w0:=w8) w8.heap.size rfl (.tmp 35) (.tmp 37) 34 38 (.agg #[(.int .i64 0),(.bool false)]) 16 rfl Try.underlying34 info38 rfl (by decide) (by omega) u11 O e [.int .i64 e.f0, .bool e.f1] (fun k=>k≠g13) (fun _=>False) rfl rfl ?aP (fun _ hk=>hk.elim) ?aF ?aO ?aB ?aS ?aL ?_;(case aP=>exact k38_mkM _ _ _ e);(case aF=>exact(fun k hk=>by have:=blk_lt HG13.out;omega));(case aO=>exact HO.out);(case aB=>exact HC.out);(case aS=>exact HC.out.size);(case aL=>omega);intro v1 w9 ho hb hg hat;have m0_:=Ya ho;have m1_:=Ya hb;have m2_:=Ya ((hg.block g13 (blk_lt HG13.out) (fun h=>HO.out.1 g13 h.symm rfl)).trans HG13.out);clear HO HC HG13 ho hb hg hat b0 b1;have HO:=m0_;have HC:=m1_;have HG13:=m2_;clear m0_ m1_ m2_;have b0:w9.cell? ⟨g13,0,none⟩=some (.int .i64 e.f0):=(Yc HG13.out 0).trans rfl;have b1:w9.cell? ⟨g13,1,none⟩=some (.bool e.f1):=(Yc HG13.out 1).trans rfl;have c0:w9.cell? ⟨g3,0,none⟩=some (.int .i64 n0):=pw_cell_below HC.out ((Yc B3.out 0).trans rfl);have c1:w9.cell? ⟨g3,1,none⟩=some (.bool Zb):=pw_cell_below HC.out ((Yc B3.out 1).trans rfl);have c2_:w9.cell? ⟨g3,2,none⟩=some (.slice A2 l.length c2):=pw_cell_below HC.out ((Yc B3.out 2).trans rfl))|(go_at_call 44;refine(ebbtideref07_From.calls (n0:Int) Zb A2 c2 l e.f0 e.f1 (z.v:Int) _ (Yt (Yt H2.out HB.out) HC.out) HC2.out HFM.out).mono ?_;rintro e_ w10 ⟨rfl,hb⟩;have m0_:=Ya (Yk HC.out hb);have m1_:=Ya (Ys HO.out hb);clear HC HO b0 b1 c0 c1 c2_ hb;have HC:=m0_;have HO:=m1_;clear m0_ m1_)|fail);go_roundw
     case rel=>exact⟨z,O ++ [e],rfl,HZ.out,HBK2,HL2.out,⟨Kd.R_mono HO.out (fun _ _=>trivial)⟩,HC⟩
     case measure=>have h_:=HMZ.out;simpa [intOf] using h_
 ·have e0:decide (hasI (nX st) t 0<0)=true:=Yv (by
   unfold hasI;rw[List.drop_zero,Yy hmem];omega)
  have HNO:Aside0 (wayRes l L n0 s t=([],false)):=⟨by unfold wayRes;rw[← HST.out,Yy hmem]⟩;clear hmem;go_wp2_with (first|(go_at_call 147;refine(ebbtideref08_found_has.calls KH _ cx (nX st) _ cy (bY st) _ _ _ (Kd.R_reads' HX.out).2.2 (Kd.R_reads' HX.out).2.1 (Kd.R_reads' HY.out).2.2 (Kd.R_reads' HY.out).2.1 HH.out).mono ?_;rintro e_ w8 ⟨rfl,hb⟩;have m0_:=Ya (Yk HB.out hb);have m1_:=Ya (Yn B3.out hb);have m2_:=Ya (Yn HW.out hb);have m3_:=Ya (Ys HX.out hb);have m4_:=Ya (Ys HY.out hb);clear HB B3 HW HX HY hb;have HB:=m0_;have B3:=m1_;have HW:=m2_;have HX:=m3_;have HY:=m4_;clear m0_ m1_ m2_ m3_ m4_;clear t0 t1)|fail);go_ret2;rw[HNO.out];exact⟨_,rfl,Kd.R_nil _ _ _ _ _,HB.out⟩
def wayF (n:Int) (l:List S74) (s t:Int) (L:List S38):Option (List S38 × Bool):=if wayOk n l L s=true then some (wayRes l L n.toNat s.toNat t) else none
theorem ebbtideref08_Way_calls (Zc:Int) (Zb:Bool) (Ze:Option Addr) (Zd:Nat) (Za:List S74) (a1 a2:Int) (A3:Option Addr) (c3:Nat) (l3:List S38) (r1:List S38) (r2:Bool) (w:World) (Zr:Kd.C k74 w Ze Za.length Za) (Zs:Za.length≤Zd) (hr3:Kd.C k38 w A3 l3.length l3) (hc3:l3.length≤c3) (h:wayF Zc Za a1 a2 l3=some (r1,r2)):
  Calls Try.prog 109 #[.agg #[.int .i64 Zc, .bool Zb, .slice Ze Za.length Zd], .int .i64 a1, .int .i64 a2, .slice A3 l3.length c3] w fun e w'=> ∃ v0_:Value,e= .returned (.tuple #[v0_, .bool r2])∧Kd.R k38 38 w' w.heap.size (fun _=>True) v0_ r1∧Below w.heap.size w w':=by
 unfold wayF at h;split at h
 ·rename_i hok
  obtain⟨n0,rfl⟩: ∃ n0:Nat,Zc=n0:=⟨Zc.toNat,by unfold wayOk at hok;simp only[Bool.and_eq_true,decide_eq_true_eq] at hok;omega⟩;obtain⟨s0,rfl⟩: ∃ s0:Nat,a1=s0:=⟨a1.toNat,by unfold wayOk at hok;simp only[Bool.and_eq_true,decide_eq_true_eq] at hok;omega⟩;obtain⟨h1,h2,h3⟩:=wayOk_iff.1 hok;injection h with h
  rw[Int.toNat_natCast,Int.toNat_natCast] at h;have h_:=way_ref n0 Zb Ze Zd Za s0 a2 A3 c3 l3 w h1 h2 h3 Zr Zs hr3 hc3;rw[h] at h_;exact h_
 ·cases h
theorem wayF_eq {n0:Nat} {l:List S74} {L:List S38} {s0:Nat} (h1:StepsOk l n0 L) (h2:s0<n0) (h3:n0≤50) (t:Int):wayF n0 l s0 t L=some (wayRes l L n0 s0 t):=by
 unfold wayF;rw[Yx (wayOk_iff.2 ⟨h1,h2,h3⟩),Int.toNat_natCast,Int.toNat_natCast]
end H
namespace P
attribute [local go_sem] max2_int min2_int max_two min_two max_three min_three max_four min_four
def ebbtideref08_Way.f (Zc:Int) (Zb:Bool) (Za:List (S74)) (a1:Int) (a2:Int) (l3:List (S38)):Option ((List (S38)) × Bool):=H.wayF Zc Za a1 a2 l3
theorem ebbtideref08_Way.calls (Zc:Int) (Zb:Bool) (Ze:Option Addr) (Zd:Nat) (Za:List (S74)) (a1:Int) (a2:Int) (A3:Option Addr) (c3:Nat) (l3:List (S38)) (r1:List (S38)) (r2:Bool) (w:World) (Zr:Kd.C k74 w Ze Za.length Za) (Zs:Za.length≤Zd) (hr3:Kd.C k38 w A3 l3.length l3) (hc3:l3.length≤c3) (h:ebbtideref08_Way.f Zc Zb Za a1 a2 l3=some (r1,r2)):
  Calls Try.prog 109 #[.agg #[.int .i64 Zc, .bool Zb, .slice Ze Za.length Zd], .int .i64 a1, .int .i64 a2, .slice A3 l3.length c3] w fun e w'=> ∃ v0_:Value,e= .returned (.tuple #[v0_, .bool r2])∧Kd.R k38 38 w' w.heap.size (fun _=>True) v0_ r1∧Below w.heap.size w w':=H.ebbtideref08_Way_calls Zc Zb Ze Zd Za a1 a2 A3 c3 l3 r1 r2 w Zr Zs hr3 hc3 h
end P
namespace P
attribute [local go_sem] max2_int min2_int max_two min_two max_three min_three max_four min_four
def ebbtideref07_Left.f (Zc:Int) (Zb:Bool) (Za:List (S74)) (l1:List Int) (Xx:Int) (a2_1:Bool):Option (Int):=if a2_1=true then(if 0≤Xx then(if Xx<(l1.length:Int) then(some (rd l1 Xx)) else(none)) else(none)) else(if 0≤Xx then(if Xx<(Za.length:Int) then(if Xx<(l1.length:Int) then(some (wrap64 (((rd_T74 Za Xx).f2) - (rd l1 Xx)))) else(none)) else(none)) else(none))
set_option maxHeartbeats 8000000 in
set_option maxRecDepth 100000 in
theorem ebbtideref07_Left.calls (Zc:Int) (Zb:Bool) (Ze:Option Addr) (Zd:Nat) (Za:List (S74)) (A1:Option Addr) (c1:Nat) (l1:List Int) (Xx:Int) (a2_1:Bool) (r:Int) (w:World) (Zr:Kd.C k74 w Ze Za.length Za) (Zs:Za.length≤Zd) (hr1:Kd.C (Kd.int .i64) w A1 l1.length l1) (hc1:l1.length≤c1) (h:ebbtideref07_Left.f Zc Zb Za l1 Xx a2_1=some r):
  Calls Try.prog 113 #[.agg #[.int .i64 Zc, .bool Zb, .slice Ze Za.length Zd], .slice A1 l1.length c1, .agg #[.int .i64 Xx, .bool a2_1]] w fun e w'=>e= .returned (.int .i64 r)∧Below w.heap.size w w':=by
 have hu24:=Try.underlying24;have hu38:=Try.underlying38;have Zl:=Ya Zr;have Zv:=Ya Zs;clear Zr Zs;have HR1:=Ya hr1;have HC1:=Ya hc1;clear hr1 hc1;have HB:=Ya (Yo w.heap.size w);have H:(if a2_1=true then(if 0≤Xx then(if Xx<(l1.length:Int) then(some (rd l1 Xx)) else(none)) else(none)) else(if 0≤Xx then(if Xx<(Za.length:Int) then(if Xx<(l1.length:Int) then(some (wrap64 (((rd_T74 Za Xx).f2) - (rd l1 Xx)))) else(none)) else(none)) else(none)))=some r:=h;clear h;by_cases c4:a2_1=true
 ·subst c4
  have H1:(if 0≤Xx then(if Xx<(l1.length:Int) then(some (rd l1 Xx)) else(none)) else(none))=some r:=by first|(rw[Yx rfl] at H;exact H)|(rw[Yx trivial] at H;exact H)
  clear H;have H:=H1;clear H1;by_cases c5:0≤Xx
  rotate_left
  ·rw[Yy c5] at H
   exact absurd H (by simp)
  rw[Yx c5] at H;have c5b0:decide (0≤Xx)=true:=Yv c5;clear c5;by_cases c6:Xx<(l1.length:Int)
  rotate_left
  ·rw[Yy c6] at H
   exact absurd H (by simp)
  rw[Yx c6] at H;have c6b0:decide (Xx<(l1.length:Int))=true:=Yv c6;clear c6;obtain rfl:=Option.some.inj H;go_enter Try.func113,Try.ntmps113;go_wp2_with (first|((with_reducible refine gate_dst (N:=3) rfl ?_);refine Yz ?hg (N:=3) ?hd (cs:= #[.int .i64 Zc, .bool Zb, .slice Ze Za.length Zd]) (t:=24) ?hr ?_;(case hd=>rfl);(case hg=>rfl);(case hr=>first|(go_simp;done)|(go_simp;rfl));intro Xq hg w7 Zf hb;have n0_:=Ya (Yk (by repeat(first|(with_reducible first|exact HB.out|apply Ye|apply Yd|apply Yg)|exact HB.out)) hb);have n1_:=Ya (Zf);have n2_:=Ya ((by rw[hg];exact(Yi (by repeat(first|(with_reducible first|exact HB.out|apply Ye|apply Yd|apply Yg)|exact HB.out))):w.heap.size≤Xq));have n3_:=Ya ((by rw[hg];exact(Yi (by repeat(first|(with_reducible first|exact HB.out|apply Ye|apply Yd|apply Yg)|exact HB.out))):w.heap.size≤Xq));clear HB;have HB:=n0_;have Xu:=n1_;have GW588:=n2_;have Uv:=n3_;clear n0_ n1_ n2_ n3_;clear hb Zf hg)|((with_reducible refine gate_dst (N:=5) rfl ?_);refine Yz ?hg (N:=5) ?hd (cs:= #[.int .i64 Xx, .bool true]) (t:=38) ?hr ?_;(case hd=>rfl);(case hg=>rfl);(case hr=>first|(go_simp;done)|(go_simp;rfl));intro Wh hg w8 Zf hb;have n0_:=Ya (Yn (g:=Xq) (o:= .cells #[.int .i64 Zc, .bool Zb, .slice Ze Za.length Zd] 24 (0,0)) (by(with_reducible repeat(first|refine Yl ?_ _|refine Ym ?_|refine Yj ?_ _));exact Xu.out) hb);have n1_:=Ya (Yk (by repeat(first|(with_reducible first|exact HB.out|apply Ye|apply Yd|apply Yg|refine Yh ?_ Uv.out)|exact HB.out)) hb);have n2_:=Ya (Zf);have n3_:=Ya ((by rw[hg];exact(Yi (by repeat(first|(with_reducible first|exact HB.out|apply Ye|apply Yd|apply Yg|refine Yh ?_ Uv.out)|exact HB.out))):w.heap.size≤Wh));have n4_:=Ya ((by rw[hg];exact(Yi (by repeat(first|(with_reducible first|exact HB.out|apply Ye|apply Yd|apply Yg|refine Yh ?_ Uv.out)|exact HB.out))):w.heap.size≤Wh));have n5_:=Ya ((by rw[hg];exact Nat.ne_of_lt (blk_lt (g:=Xq) (o:= .cells #[.int .i64 Zc, .bool Zb, .slice Ze Za.length Zd] 24 (0,0)) (by(with_reducible repeat(first|refine Yl ?_ _|refine Ym ?_|refine Yj ?_ _));exact Xu.out)):Xq≠Wh));have n6_:=Ya ((by rw[hg];exact Nat.ne_of_gt (blk_lt (g:=Xq) (o:= .cells #[.int .i64 Zc, .bool Zb, .slice Ze Za.length Zd] 24 (0,0)) (by(with_reducible repeat(first|refine Yl ?_ _|refine Ym ?_|refine Yj ?_ _));exact Xu.out)):Wh≠Xq));clear Xu;clear HB;have Xu:=n0_;have HB:=n1_;have Vo:=n2_;have GW589:=n3_;have GE589:=n4_;have Ud:=n5_;have Ue:=n6_;clear n0_ n1_ n2_ n3_ n4_ n5_ n6_;clear hb Zf hg;have hnb9:=Ue.out;have hnc9:=Ud.out;have Vs:w8.cell? ⟨Wh,0,none⟩=some (.int .i64 Xx):=(Yc Vo.out 0).trans rfl;have Vt:w8.cell? ⟨Wh,1,none⟩=some (.bool true):=(Yc Vo.out 1).trans rfl;have Vu:=Yf Vo.out 0;have Vv:=Yf Vo.out 1;have p590:0≤(Xx:Int):=Yu (by first|(with_reducible assumption)|assumption);have q590:Xx<(l1.length:Int):=Yu (by first|(with_reducible assumption)|assumption);obtain⟨ad590,e590,hx590_0⟩:=Kd.at_int HR1.out Xx p590 q590;cases e590;replace hx590_0:=(HB.out.cell (Yb w _ hx590_0)).trans hx590_0;replace p590:=eq_true p590;replace q590:=eq_true q590));repeat(go_quiet (first|((with_reducible refine gate_dst (N:=3) rfl ?_);refine Yz ?hg (N:=3) ?hd (cs:= #[.int .i64 Zc, .bool Zb, .slice Ze Za.length Zd]) (t:=24) ?hr ?_;(case hd=>rfl);(case hg=>rfl);(case hr=>first|(go_simp;done)|(go_simp;rfl));intro Xq hg w7 Zf hb;have n0_:=Ya (Yk (by repeat(first|(with_reducible first|exact HB.out|apply Ye|apply Yd|apply Yg)|exact HB.out)) hb);have n1_:=Ya (Zf);have n2_:=Ya ((by rw[hg];exact(Yi (by repeat(first|(with_reducible first|exact HB.out|apply Ye|apply Yd|apply Yg)|exact HB.out))):w.heap.size≤Xq));have n3_:=Ya ((by rw[hg];exact(Yi (by repeat(first|(with_reducible first|exact HB.out|apply Ye|apply Yd|apply Yg)|exact HB.out))):w.heap.size≤Xq));clear HB;have HB:=n0_;have Xu:=n1_;have GW588:=n2_;have Uv:=n3_;clear n0_ n1_ n2_ n3_;clear hb Zf hg)|((with_reducible refine gate_dst (N:=5) rfl ?_);refine Yz ?hg (N:=5) ?hd (cs:= #[.int .i64 Xx, .bool true]) (t:=38) ?hr ?_;(case hd=>rfl);(case hg=>rfl);(case hr=>first|(go_simp;done)|(go_simp;rfl));intro Wh hg w8 Zf hb;have n0_:=Ya (Yn (g:=Xq) (o:= .cells #[.int .i64 Zc, .bool Zb, .slice Ze Za.length Zd] 24 (0,0)) (by(with_reducible repeat(first|refine Yl ?_ _|refine Ym ?_|refine Yj ?_ _));exact Xu.out) hb);have n1_:=Ya (Yk (by repeat(first|(with_reducible first|exact HB.out|apply Ye|apply Yd|apply Yg|refine Yh ?_ Uv.out)|exact HB.out)) hb);have n2_:=Ya (Zf);have n3_:=Ya ((by rw[hg];exact(Yi (by repeat(first|(with_reducible first|exact HB.out|apply Ye|apply Yd|apply Yg|refine Yh ?_ Uv.out)|exact HB.out))):w.heap.size≤Wh));have n4_:=Ya ((by rw[hg];exact(Yi (by repeat(first|(with_reducible first|exact HB.out|apply Ye|apply Yd|apply Yg|refine Yh ?_ Uv.out)|exact HB.out))):w.heap.size≤Wh));have n5_:=Ya ((by rw[hg];exact Nat.ne_of_lt (blk_lt (g:=Xq) (o:= .cells #[.int .i64 Zc, .bool Zb, .slice Ze Za.length Zd] 24 (0,0)) (by(with_reducible repeat(first|refine Yl ?_ _|refine Ym ?_|refine Yj ?_ _));exact Xu.out)):Xq≠Wh));have n6_:=Ya ((by rw[hg];exact Nat.ne_of_gt (blk_lt (g:=Xq) (o:= .cells #[.int .i64 Zc, .bool Zb, .slice Ze Za.length Zd] 24 (0,0)) (by(with_reducible repeat(first|refine Yl ?_ _|refine Ym ?_|refine Yj ?_ _));exact Xu.out)):Wh≠Xq));clear Xu;clear HB;have Xu:=n0_;have HB:=n1_;have Vo:=n2_;have GW589:=n3_;have GE589:=n4_;have Ud:=n5_;have Ue:=n6_;clear n0_ n1_ n2_ n3_ n4_ n5_ n6_;clear hb Zf hg;have hnb9:=Ue.out;have hnc9:=Ud.out;have Vs:w8.cell? ⟨Wh,0,none⟩=some (.int .i64 Xx):=(Yc Vo.out 0).trans rfl;have Vt:w8.cell? ⟨Wh,1,none⟩=some (.bool true):=(Yc Vo.out 1).trans rfl;have Vu:=Yf Vo.out 0;have Vv:=Yf Vo.out 1;have p590:0≤(Xx:Int):=Yu (by first|(with_reducible assumption)|assumption);have q590:Xx<(l1.length:Int):=Yu (by first|(with_reducible assumption)|assumption);obtain⟨ad590,e590,hx590_0⟩:=Kd.at_int HR1.out Xx p590 q590;cases e590;replace hx590_0:=(HB.out.cell (Yb w _ hx590_0)).trans hx590_0;replace p590:=eq_true p590;replace q590:=eq_true q590));try go_wp2_with (first|((with_reducible refine gate_dst (N:=3) rfl ?_);refine Yz ?hg (N:=3) ?hd (cs:= #[.int .i64 Zc, .bool Zb, .slice Ze Za.length Zd]) (t:=24) ?hr ?_;(case hd=>rfl);(case hg=>rfl);(case hr=>first|(go_simp;done)|(go_simp;rfl));intro Xq hg w7 Zf hb;have n0_:=Ya (Yk (by repeat(first|(with_reducible first|exact HB.out|apply Ye|apply Yd|apply Yg)|exact HB.out)) hb);have n1_:=Ya (Zf);have n2_:=Ya ((by rw[hg];exact(Yi (by repeat(first|(with_reducible first|exact HB.out|apply Ye|apply Yd|apply Yg)|exact HB.out))):w.heap.size≤Xq));have n3_:=Ya ((by rw[hg];exact(Yi (by repeat(first|(with_reducible first|exact HB.out|apply Ye|apply Yd|apply Yg)|exact HB.out))):w.heap.size≤Xq));clear HB;have HB:=n0_;have Xu:=n1_;have GW588:=n2_;have Uv:=n3_;clear n0_ n1_ n2_ n3_;clear hb Zf hg)|((with_reducible refine gate_dst (N:=5) rfl ?_);refine Yz ?hg (N:=5) ?hd (cs:= #[.int .i64 Xx, .bool true]) (t:=38) ?hr ?_;(case hd=>rfl);(case hg=>rfl);(case hr=>first|(go_simp;done)|(go_simp;rfl));intro Wh hg w8 Zf hb;have n0_:=Ya (Yn (g:=Xq) (o:= .cells #[.int .i64 Zc, .bool Zb, .slice Ze Za.length Zd] 24 (0,0)) (by(with_reducible repeat(first|refine Yl ?_ _|refine Ym ?_|refine Yj ?_ _));exact Xu.out) hb);have n1_:=Ya (Yk (by repeat(first|(with_reducible first|exact HB.out|apply Ye|apply Yd|apply Yg|refine Yh ?_ Uv.out)|exact HB.out)) hb);have n2_:=Ya (Zf);have n3_:=Ya ((by rw[hg];exact(Yi (by repeat(first|(with_reducible first|exact HB.out|apply Ye|apply Yd|apply Yg|refine Yh ?_ Uv.out)|exact HB.out))):w.heap.size≤Wh));have n4_:=Ya ((by rw[hg];exact(Yi (by repeat(first|(with_reducible first|exact HB.out|apply Ye|apply Yd|apply Yg|refine Yh ?_ Uv.out)|exact HB.out))):w.heap.size≤Wh));have n5_:=Ya ((by rw[hg];exact Nat.ne_of_lt (blk_lt (g:=Xq) (o:= .cells #[.int .i64 Zc, .bool Zb, .slice Ze Za.length Zd] 24 (0,0)) (by(with_reducible repeat(first|refine Yl ?_ _|refine Ym ?_|refine Yj ?_ _));exact Xu.out)):Xq≠Wh));have n6_:=Ya ((by rw[hg];exact Nat.ne_of_gt (blk_lt (g:=Xq) (o:= .cells #[.int .i64 Zc, .bool Zb, .slice Ze Za.length Zd] 24 (0,0)) (by(with_reducible repeat(first|refine Yl ?_ _|refine Ym ?_|refine Yj ?_ _));exact Xu.out)):Wh≠Xq));clear Xu;clear HB;have Xu:=n0_;have HB:=n1_;have Vo:=n2_;have GW589:=n3_;have GE589:=n4_;have Ud:=n5_;have Ue:=n6_;clear n0_ n1_ n2_ n3_ n4_ n5_ n6_;clear hb Zf hg;have hnb9:=Ue.out;have hnc9:=Ud.out;have Vs:w8.cell? ⟨Wh,0,none⟩=some (.int .i64 Xx):=(Yc Vo.out 0).trans rfl;have Vt:w8.cell? ⟨Wh,1,none⟩=some (.bool true):=(Yc Vo.out 1).trans rfl;have Vu:=Yf Vo.out 0;have Vv:=Yf Vo.out 1;have p590:0≤(Xx:Int):=Yu (by first|(with_reducible assumption)|assumption);have q590:Xx<(l1.length:Int):=Yu (by first|(with_reducible assumption)|assumption);obtain⟨ad590,e590,hx590_0⟩:=Kd.at_int HR1.out Xx p590 q590;cases e590;replace hx590_0:=(HB.out.cell (Yb w _ hx590_0)).trans hx590_0;replace p590:=eq_true p590;replace q590:=eq_true q590)))
  go_ret;exact⟨by first|rfl|(simp[errW_none,errW_some]<;>rfl)|(simp[*,errW_none,errW_some]<;>rfl),by repeat(first|(with_reducible first|exact HB.out|apply Ye|apply Yd|apply Yg|refine Yh ?_ Uv.out|refine Yh ?_ GE589.out)|exact HB.out)⟩
 replace c4:=Bool.eq_false_iff.mpr c4;subst c4;have H1:(if 0≤Xx then(if Xx<(Za.length:Int) then(if Xx<(l1.length:Int) then(some (wrap64 (((rd_T74 Za Xx).f2) - (rd l1 Xx)))) else(none)) else(none)) else(none))=some r:=by rw[Yy (show ¬ (false=true) by decide)] at H;exact H
 clear H;have H:=H1;clear H1;by_cases c11:0≤Xx
 rotate_left
 ·rw[Yy c11] at H
  exact absurd H (by simp)
 rw[Yx c11] at H;have c11b0:decide (0≤Xx)=true:=Yv c11;clear c11;by_cases c12:Xx<(Za.length:Int)
 rotate_left
 ·rw[Yy c12] at H
  exact absurd H (by simp)
 rw[Yx c12] at H;have c12b0:decide (Xx<(Za.length:Int))=true:=Yv c12;clear c12;by_cases c13:Xx<(l1.length:Int)
 rotate_left
 ·rw[Yy c13] at H
  exact absurd H (by simp)
 rw[Yx c13] at H;have c13b0:decide (Xx<(l1.length:Int))=true:=Yv c13;clear c13;obtain rfl:=Option.some.inj H;go_enter Try.func113,Try.ntmps113;go_wp2_with (first|((with_reducible refine gate_dst (N:=3) rfl ?_);refine Yz ?hg (N:=3) ?hd (cs:= #[.int .i64 Zc, .bool Zb, .slice Ze Za.length Zd]) (t:=24) ?hr ?_;(case hd=>rfl);(case hg=>rfl);(case hr=>first|(go_simp;done)|(go_simp;rfl));intro Xq hg w14 Zf hb;have n0_:=Ya (Yk (by repeat(first|(with_reducible first|exact HB.out|apply Ye|apply Yd|apply Yg)|exact HB.out)) hb);have n1_:=Ya (Zf);have n2_:=Ya ((by rw[hg];exact(Yi (by repeat(first|(with_reducible first|exact HB.out|apply Ye|apply Yd|apply Yg)|exact HB.out))):w.heap.size≤Xq));have n3_:=Ya ((by rw[hg];exact(Yi (by repeat(first|(with_reducible first|exact HB.out|apply Ye|apply Yd|apply Yg)|exact HB.out))):w.heap.size≤Xq));clear HB;have HB:=n0_;have Xu:=n1_;have GW588:=n2_;have Uv:=n3_;clear n0_ n1_ n2_ n3_;clear hb Zf hg)|((with_reducible refine gate_dst (N:=5) rfl ?_);refine Yz ?hg (N:=5) ?hd (cs:= #[.int .i64 Xx, .bool false]) (t:=38) ?hr ?_;(case hd=>rfl);(case hg=>rfl);(case hr=>first|(go_simp;done)|(go_simp;rfl));intro Wh hg w15 Zf hb;have n0_:=Ya (Yn (g:=Xq) (o:= .cells #[.int .i64 Zc, .bool Zb, .slice Ze Za.length Zd] 24 (0,0)) (by(with_reducible repeat(first|refine Yl ?_ _|refine Ym ?_|refine Yj ?_ _));exact Xu.out) hb);have n1_:=Ya (Yk (by repeat(first|(with_reducible first|exact HB.out|apply Ye|apply Yd|apply Yg|refine Yh ?_ Uv.out)|exact HB.out)) hb);have n2_:=Ya (Zf);have n3_:=Ya ((by rw[hg];exact(Yi (by repeat(first|(with_reducible first|exact HB.out|apply Ye|apply Yd|apply Yg|refine Yh ?_ Uv.out)|exact HB.out))):w.heap.size≤Wh));have n4_:=Ya ((by rw[hg];exact(Yi (by repeat(first|(with_reducible first|exact HB.out|apply Ye|apply Yd|apply Yg|refine Yh ?_ Uv.out)|exact HB.out))):w.heap.size≤Wh));have n5_:=Ya ((by rw[hg];exact Nat.ne_of_lt (blk_lt (g:=Xq) (o:= .cells #[.int .i64 Zc, .bool Zb, .slice Ze Za.length Zd] 24 (0,0)) (by(with_reducible repeat(first|refine Yl ?_ _|refine Ym ?_|refine Yj ?_ _));exact Xu.out)):Xq≠Wh));have n6_:=Ya ((by rw[hg];exact Nat.ne_of_gt (blk_lt (g:=Xq) (o:= .cells #[.int .i64 Zc, .bool Zb, .slice Ze Za.length Zd] 24 (0,0)) (by(with_reducible repeat(first|refine Yl ?_ _|refine Ym ?_|refine Yj ?_ _));exact Xu.out)):Wh≠Xq));clear Xu;clear HB;have Xu:=n0_;have HB:=n1_;have Vo:=n2_;have GW589:=n3_;have GE589:=n4_;have Ud:=n5_;have Ue:=n6_;clear n0_ n1_ n2_ n3_ n4_ n5_ n6_;clear hb Zf hg;have hnb16:=Ue.out;have hnc16:=Ud.out;have Uk:w15.cell? ⟨Wh,0,none⟩=some (.int .i64 Xx):=(Yc Vo.out 0).trans rfl;have Ul:w15.cell? ⟨Wh,1,none⟩=some (.bool false):=(Yc Vo.out 1).trans rfl;have Um:=Yf Vo.out 0;have Un:=Yf Vo.out 1;have hcz18_0:w15.cell? ⟨Xq,0,none⟩=some (.int .i64 Zc):=(Yc Xu.out 0).trans rfl;have hcz18_1:w15.cell? ⟨Xq,1,none⟩=some (.bool Zb):=(Yc Xu.out 1).trans rfl;have hcz18_2:w15.cell? ⟨Xq,2,none⟩=some (.slice Ze Za.length Zd):=(Yc Xu.out 2).trans rfl;have hfz18_0:=Yf Xu.out 0;have hfz18_1:=Yf Xu.out 1;have hfz18_2:=Yf Xu.out 2;have p591:0≤(Xx:Int):=Yu (by first|(with_reducible assumption)|assumption);have q591:Xx<(Za.length:Int):=Yu (by first|(with_reducible assumption)|assumption);obtain⟨ad591,e591,hx591_0,hx591_1,hx591_2,hx591_3⟩:=at_T74 Zl.out Xx p591 q591;cases e591;replace hx591_0:=(HB.out.cell (Yb w _ hx591_0)).trans hx591_0;replace hx591_1:=(HB.out.cell (Yb w _ hx591_1)).trans hx591_1;replace hx591_2:=(HB.out.cell (Yb w _ hx591_2)).trans hx591_2;replace hx591_3:=(HB.out.cell (Yb w _ hx591_3)).trans hx591_3;replace p591:=eq_true p591;replace q591:=eq_true q591;have p592:0≤(Xx:Int):=Yu (by first|(with_reducible assumption)|assumption);have q592:Xx<(l1.length:Int):=Yu (by first|(with_reducible assumption)|assumption);obtain⟨ad592,e592,hx592_0⟩:=Kd.at_int HR1.out Xx p592 q592;cases e592;replace hx592_0:=(HB.out.cell (Yb w _ hx592_0)).trans hx592_0;replace p592:=eq_true p592;replace q592:=eq_true q592));repeat(go_quiet (first|((with_reducible refine gate_dst (N:=3) rfl ?_);refine Yz ?hg (N:=3) ?hd (cs:= #[.int .i64 Zc, .bool Zb, .slice Ze Za.length Zd]) (t:=24) ?hr ?_;(case hd=>rfl);(case hg=>rfl);(case hr=>first|(go_simp;done)|(go_simp;rfl));intro Xq hg w14 Zf hb;have n0_:=Ya (Yk (by repeat(first|(with_reducible first|exact HB.out|apply Ye|apply Yd|apply Yg)|exact HB.out)) hb);have n1_:=Ya (Zf);have n2_:=Ya ((by rw[hg];exact(Yi (by repeat(first|(with_reducible first|exact HB.out|apply Ye|apply Yd|apply Yg)|exact HB.out))):w.heap.size≤Xq));have n3_:=Ya ((by rw[hg];exact(Yi (by repeat(first|(with_reducible first|exact HB.out|apply Ye|apply Yd|apply Yg)|exact HB.out))):w.heap.size≤Xq));clear HB;have HB:=n0_;have Xu:=n1_;have GW588:=n2_;have Uv:=n3_;clear n0_ n1_ n2_ n3_;clear hb Zf hg)|((with_reducible refine gate_dst (N:=5) rfl ?_);refine Yz ?hg (N:=5) ?hd (cs:= #[.int .i64 Xx, .bool false]) (t:=38) ?hr ?_;(case hd=>rfl);(case hg=>rfl);(case hr=>first|(go_simp;done)|(go_simp;rfl));intro Wh hg w15 Zf hb;have n0_:=Ya (Yn (g:=Xq) (o:= .cells #[.int .i64 Zc, .bool Zb, .slice Ze Za.length Zd] 24 (0,0)) (by(with_reducible repeat(first|refine Yl ?_ _|refine Ym ?_|refine Yj ?_ _));exact Xu.out) hb);have n1_:=Ya (Yk (by repeat(first|(with_reducible first|exact HB.out|apply Ye|apply Yd|apply Yg|refine Yh ?_ Uv.out)|exact HB.out)) hb);have n2_:=Ya (Zf);have n3_:=Ya ((by rw[hg];exact(Yi (by repeat(first|(with_reducible first|exact HB.out|apply Ye|apply Yd|apply Yg|refine Yh ?_ Uv.out)|exact HB.out))):w.heap.size≤Wh));have n4_:=Ya ((by rw[hg];exact(Yi (by repeat(first|(with_reducible first|exact HB.out|apply Ye|apply Yd|apply Yg|refine Yh ?_ Uv.out)|exact HB.out))):w.heap.size≤Wh));have n5_:=Ya ((by rw[hg];exact Nat.ne_of_lt (blk_lt (g:=Xq) (o:= .cells #[.int .i64 Zc, .bool Zb, .slice Ze Za.length Zd] 24 (0,0)) (by(with_reducible repeat(first|refine Yl ?_ _|refine Ym ?_|refine Yj ?_ _));exact Xu.out)):Xq≠Wh));have n6_:=Ya ((by rw[hg];exact Nat.ne_of_gt (blk_lt (g:=Xq) (o:= .cells #[.int .i64 Zc, .bool Zb, .slice Ze Za.length Zd] 24 (0,0)) (by(with_reducible repeat(first|refine Yl ?_ _|refine Ym ?_|refine Yj ?_ _));exact Xu.out)):Wh≠Xq));clear Xu;clear HB;have Xu:=n0_;have HB:=n1_;have Vo:=n2_;have GW589:=n3_;have GE589:=n4_;have Ud:=n5_;have Ue:=n6_;clear n0_ n1_ n2_ n3_ n4_ n5_ n6_;clear hb Zf hg;have hnb16:=Ue.out;have hnc16:=Ud.out;have Uk:w15.cell? ⟨Wh,0,none⟩=some (.int .i64 Xx):=(Yc Vo.out 0).trans rfl;have Ul:w15.cell? ⟨Wh,1,none⟩=some (.bool false):=(Yc Vo.out 1).trans rfl;have Um:=Yf Vo.out 0;have Un:=Yf Vo.out 1;have hcz18_0:w15.cell? ⟨Xq,0,none⟩=some (.int .i64 Zc):=(Yc Xu.out 0).trans rfl;have hcz18_1:w15.cell? ⟨Xq,1,none⟩=some (.bool Zb):=(Yc Xu.out 1).trans rfl;have hcz18_2:w15.cell? ⟨Xq,2,none⟩=some (.slice Ze Za.length Zd):=(Yc Xu.out 2).trans rfl;have hfz18_0:=Yf Xu.out 0;have hfz18_1:=Yf Xu.out 1;have hfz18_2:=Yf Xu.out 2;have p591:0≤(Xx:Int):=Yu (by first|(with_reducible assumption)|assumption);have q591:Xx<(Za.length:Int):=Yu (by first|(with_reducible assumption)|assumption);obtain⟨ad591,e591,hx591_0,hx591_1,hx591_2,hx591_3⟩:=at_T74 Zl.out Xx p591 q591;cases e591;replace hx591_0:=(HB.out.cell (Yb w _ hx591_0)).trans hx591_0;replace hx591_1:=(HB.out.cell (Yb w _ hx591_1)).trans hx591_1;replace hx591_2:=(HB.out.cell (Yb w _ hx591_2)).trans hx591_2;replace hx591_3:=(HB.out.cell (Yb w _ hx591_3)).trans hx591_3;replace p591:=eq_true p591;replace q591:=eq_true q591;have p592:0≤(Xx:Int):=Yu (by first|(with_reducible assumption)|assumption);have q592:Xx<(l1.length:Int):=Yu (by first|(with_reducible assumption)|assumption);obtain⟨ad592,e592,hx592_0⟩:=Kd.at_int HR1.out Xx p592 q592;cases e592;replace hx592_0:=(HB.out.cell (Yb w _ hx592_0)).trans hx592_0;replace p592:=eq_true p592;replace q592:=eq_true q592));try go_wp2_with (first|((with_reducible refine gate_dst (N:=3) rfl ?_);refine Yz ?hg (N:=3) ?hd (cs:= #[.int .i64 Zc, .bool Zb, .slice Ze Za.length Zd]) (t:=24) ?hr ?_;(case hd=>rfl);(case hg=>rfl);(case hr=>first|(go_simp;done)|(go_simp;rfl));intro Xq hg w14 Zf hb;have n0_:=Ya (Yk (by repeat(first|(with_reducible first|exact HB.out|apply Ye|apply Yd|apply Yg)|exact HB.out)) hb);have n1_:=Ya (Zf);have n2_:=Ya ((by rw[hg];exact(Yi (by repeat(first|(with_reducible first|exact HB.out|apply Ye|apply Yd|apply Yg)|exact HB.out))):w.heap.size≤Xq));have n3_:=Ya ((by rw[hg];exact(Yi (by repeat(first|(with_reducible first|exact HB.out|apply Ye|apply Yd|apply Yg)|exact HB.out))):w.heap.size≤Xq));clear HB;have HB:=n0_;have Xu:=n1_;have GW588:=n2_;have Uv:=n3_;clear n0_ n1_ n2_ n3_;clear hb Zf hg)|((with_reducible refine gate_dst (N:=5) rfl ?_);refine Yz ?hg (N:=5) ?hd (cs:= #[.int .i64 Xx, .bool false]) (t:=38) ?hr ?_;(case hd=>rfl);(case hg=>rfl);(case hr=>first|(go_simp;done)|(go_simp;rfl));intro Wh hg w15 Zf hb;have n0_:=Ya (Yn (g:=Xq) (o:= .cells #[.int .i64 Zc, .bool Zb, .slice Ze Za.length Zd] 24 (0,0)) (by(with_reducible repeat(first|refine Yl ?_ _|refine Ym ?_|refine Yj ?_ _));exact Xu.out) hb);have n1_:=Ya (Yk (by repeat(first|(with_reducible first|exact HB.out|apply Ye|apply Yd|apply Yg|refine Yh ?_ Uv.out)|exact HB.out)) hb);have n2_:=Ya (Zf);have n3_:=Ya ((by rw[hg];exact(Yi (by repeat(first|(with_reducible first|exact HB.out|apply Ye|apply Yd|apply Yg|refine Yh ?_ Uv.out)|exact HB.out))):w.heap.size≤Wh));have n4_:=Ya ((by rw[hg];exact(Yi (by repeat(first|(with_reducible first|exact HB.out|apply Ye|apply Yd|apply Yg|refine Yh ?_ Uv.out)|exact HB.out))):w.heap.size≤Wh));have n5_:=Ya ((by rw[hg];exact Nat.ne_of_lt (blk_lt (g:=Xq) (o:= .cells #[.int .i64 Zc, .bool Zb, .slice Ze Za.length Zd] 24 (0,0)) (by(with_reducible repeat(first|refine Yl ?_ _|refine Ym ?_|refine Yj ?_ _));exact Xu.out)):Xq≠Wh));have n6_:=Ya ((by rw[hg];exact Nat.ne_of_gt (blk_lt (g:=Xq) (o:= .cells #[.int .i64 Zc, .bool Zb, .slice Ze Za.length Zd] 24 (0,0)) (by(with_reducible repeat(first|refine Yl ?_ _|refine Ym ?_|refine Yj ?_ _));exact Xu.out)):Wh≠Xq));clear Xu;clear HB;have Xu:=n0_;have HB:=n1_;have Vo:=n2_;have GW589:=n3_;have GE589:=n4_;have Ud:=n5_;have Ue:=n6_;clear n0_ n1_ n2_ n3_ n4_ n5_ n6_;clear hb Zf hg;have hnb16:=Ue.out;have hnc16:=Ud.out;have Uk:w15.cell? ⟨Wh,0,none⟩=some (.int .i64 Xx):=(Yc Vo.out 0).trans rfl;have Ul:w15.cell? ⟨Wh,1,none⟩=some (.bool false):=(Yc Vo.out 1).trans rfl;have Um:=Yf Vo.out 0;have Un:=Yf Vo.out 1;have hcz18_0:w15.cell? ⟨Xq,0,none⟩=some (.int .i64 Zc):=(Yc Xu.out 0).trans rfl;have hcz18_1:w15.cell? ⟨Xq,1,none⟩=some (.bool Zb):=(Yc Xu.out 1).trans rfl;have hcz18_2:w15.cell? ⟨Xq,2,none⟩=some (.slice Ze Za.length Zd):=(Yc Xu.out 2).trans rfl;have hfz18_0:=Yf Xu.out 0;have hfz18_1:=Yf Xu.out 1;have hfz18_2:=Yf Xu.out 2;have p591:0≤(Xx:Int):=Yu (by first|(with_reducible assumption)|assumption);have q591:Xx<(Za.length:Int):=Yu (by first|(with_reducible assumption)|assumption);obtain⟨ad591,e591,hx591_0,hx591_1,hx591_2,hx591_3⟩:=at_T74 Zl.out Xx p591 q591;cases e591;replace hx591_0:=(HB.out.cell (Yb w _ hx591_0)).trans hx591_0;replace hx591_1:=(HB.out.cell (Yb w _ hx591_1)).trans hx591_1;replace hx591_2:=(HB.out.cell (Yb w _ hx591_2)).trans hx591_2;replace hx591_3:=(HB.out.cell (Yb w _ hx591_3)).trans hx591_3;replace p591:=eq_true p591;replace q591:=eq_true q591;have p592:0≤(Xx:Int):=Yu (by first|(with_reducible assumption)|assumption);have q592:Xx<(l1.length:Int):=Yu (by first|(with_reducible assumption)|assumption);obtain⟨ad592,e592,hx592_0⟩:=Kd.at_int HR1.out Xx p592 q592;cases e592;replace hx592_0:=(HB.out.cell (Yb w _ hx592_0)).trans hx592_0;replace p592:=eq_true p592;replace q592:=eq_true q592)))
 go_ret;exact⟨by first|rfl|(simp[errW_none,errW_some]<;>rfl)|(simp[*,errW_none,errW_some]<;>rfl),by repeat(first|(with_reducible first|exact HB.out|apply Ye|apply Yd|apply Yg|refine Yh ?_ Uv.out|refine Yh ?_ GE589.out)|exact HB.out)⟩
end P
namespace P
attribute [local go_sem] max2_int min2_int max_two min_two max_three min_three max_four min_four
def ebbtideref08_Bottle.l0:Nat→List Int→List (S38)→Int→Int→Int→Bool→List (S74)→Option (Int)
 |0,_,_,_,_,_,_,_=>none
 |k+1,x1,x2,x7,x8,x662000,x662001,x662002=>if x8<(x2.length:Int) then(if 0≤x8 then((ebbtideref07_Left.f x662000 x662001 x662002 x1 ((rd_T38 x2 x8).f0) ((rd_T38 x2 x8).f1)).bind fun t665=>(ebbtideref08_Bottle.l0 k x1 x2 (mn x7 t665) (wrap64 (x8+1)) x662000 x662001 x662002)) else(none)) else(some x7)
def ebbtideref08_Bottle.f (k:Nat) (Zc:Int) (Zb:Bool) (Za:List (S74)) (l1:List Int) (l2:List (S38)):Option (Int):=if 0<(l2.length:Int) then((ebbtideref07_Left.f Zc Zb Za l1 ((rd_T38 l2 0).f0) ((rd_T38 l2 0).f1)).bind fun t663=>(ebbtideref08_Bottle.l0 k l1 l2 t663 1 Zc Zb Za)) else(none)
def ebbtideref08_Bottle.T5:Bool × List (List Nat × List Nat):=(true,[([],[]),([],[]),([],[]),([],[]),([],[]),([3,4],[3,4]),([5],[5]),([1,2,6],[1,2,6]),([0,7],[0,7]),([8,7,0,1,2,3,4,5,6,7,8],[0,8])])
def ebbtideref08_Bottle.B5:List Nat:=[0,0,0,0,0,24,56,126,255,511]
theorem ebbtideref08_Bottle.tab5:rtab .any (opsOf Try.f61 5)=ebbtideref08_Bottle.T5:=by kernel_rfl
theorem ebbtideref08_Bottle.bits5:waitsOk ebbtideref08_Bottle.T5.2 ebbtideref08_Bottle.B5=true:=by kernel_rfl
set_option maxHeartbeats 8000000 in
set_option maxRecDepth 100000 in
theorem ebbtideref08_Bottle.calls (k:Nat) (Zc:Int) (Zb:Bool) (Ze:Option Addr) (Zd:Nat) (Za:List (S74)) (A1:Option Addr) (c1:Nat) (l1:List Int) (A2:Option Addr) (c2:Nat) (l2:List (S38)) (r:Int) (w:World) (Zr:Kd.C k74 w Ze Za.length Za) (Zs:Za.length≤Zd) (hr1:Kd.C (Kd.int .i64) w A1 l1.length l1) (hc1:l1.length≤c1) (hr2:Kd.C k38 w A2 l2.length l2) (hc2:l2.length≤c2) (h:ebbtideref08_Bottle.f k Zc Zb Za l1 l2=some r):
  Calls Try.prog 61 #[.agg #[.int .i64 Zc, .bool Zb, .slice Ze Za.length Zd], .slice A1 l1.length c1, .slice A2 l2.length c2] w fun e w'=>e= .returned (.int .i64 r)∧Below w.heap.size w w':=by
 have hu24:=Try.underlying24;have hu38:=Try.underlying38;have Zl:=Ya Zr;have Zv:=Ya Zs;clear Zr Zs;have HR1:=Ya hr1;have HC1:=Ya hc1;clear hr1 hc1;have HR2:=Ya hr2;have HC2:=Ya hc2;clear hr2 hc2;have HB:=Ya (Yo w.heap.size w);have H:(if 0<(l2.length:Int) then((ebbtideref07_Left.f Zc Zb Za l1 ((rd_T38 l2 0).f0) ((rd_T38 l2 0).f1)).bind fun t663=>(ebbtideref08_Bottle.l0 k l1 l2 t663 1 Zc Zb Za)) else(none))=some r:=h;clear h;by_cases c4:0<(l2.length:Int)
 rotate_left
 ·rw[Yy c4] at H
  exact absurd H (by simp)
 rw[Yx c4] at H;have c4b0:decide (0<(l2.length:Int))=true:=Yv c4;have c4b1:decide (0<l2.length)=true:=Yv (by omega);clear c4;replace H:=Option.bind_eq_some_iff.mp H;obtain⟨t663,A50,H⟩:=H;replace H:(ebbtideref08_Bottle.l0 k l1 l2 t663 1 Zc Zb Za)=some r:=H;have A5:=Ya A50;clear A50;have H':=Ya H;clear H;go_enter Try.func61,Try.ntmps61;try go_wp2_with (first|((with_reducible refine gate_dst (N:=3) rfl ?_);refine Yz ?hg (N:=3) ?hd (cs:= #[.int .i64 Zc, .bool Zb, .slice Ze Za.length Zd]) (t:=24) ?hr ?_;(case hd=>rfl);(case hg=>rfl);(case hr=>first|(go_simp;done)|(go_simp;rfl));intro gb661 hg w6 Zf hb;have n0_:=Ya (Yk (by repeat(first|(with_reducible first|exact HB.out|apply Ye|apply Yd|apply Yg)|exact HB.out)) hb);have n1_:=Ya (Zf);have n2_:=Ya ((by rw[hg];exact(Yi (by repeat(first|(with_reducible first|exact HB.out|apply Ye|apply Yd|apply Yg)|exact HB.out))):w.heap.size≤gb661));have n3_:=Ya ((by rw[hg];exact(Yi (by repeat(first|(with_reducible first|exact HB.out|apply Ye|apply Yd|apply Yg)|exact HB.out))):w.heap.size≤gb661));clear HB;have HB:=n0_;have Vp:=n1_;have GW661:=n2_;have GE661:=n3_;clear n0_ n1_ n2_ n3_;clear hb Zf hg))
 have n0_:=Ya (Ym Vp.out);have n1_:=Ya (Yg HB.out);clear Vp;clear HB;have Vp:=n0_;have HB:=n1_;clear n0_ n1_;have p662:0≤(0:Int):=(by omega);have q662:0<(l2.length:Int):=Yu (by first|(with_reducible assumption)|assumption);obtain⟨ad662,e662,hx662_0,hx662_1⟩:=at_T38 HR2.out 0 p662 q662;have hw662_1:=hx662_1
 (try rw[show ((0:Int)).toNat=0 from rfl] at hw662_1)
 (try rw[show 0 * 2=0 from rfl] at hw662_1)
 (try rw[Addr.add_zero'] at hw662_1)
 have hw662_0:=hx662_0
 (try rw[show ((0:Int)).toNat=0 from rfl] at hw662_0)
 (try rw[show 0 * 2=0 from rfl] at hw662_0)
 (try rw[Addr.add_zero'] at hw662_0)
 cases e662;have qi662:(0<l2.length)=True:=eq_true (by omega)
 (try rw[show ((0:Int)).toNat=0 from rfl] at hx662_0)
 (try rw[show 0 * 2=0 from rfl] at hx662_0)
 (try rw[Addr.add_zero'] at hx662_0)
 (try rw[show ((0:Int)).toNat=0 from rfl] at hx662_1)
 (try rw[show 0 * 2=0 from rfl] at hx662_1)
 (try rw[Addr.add_zero'] at hx662_1)
 replace hx662_0:=(HB.out.cell (Yb w _ hx662_0)).trans hx662_0;replace hx662_1:=(HB.out.cell (Yb w _ hx662_1)).trans hx662_1;replace p662:=eq_true p662;replace q662:=eq_true q662;refine start_ (n:=7) (S:=fun w'=>w'.cell? ⟨gb661,0,none⟩=some (.int .i64 Zc)∧w'.cell? ⟨gb661,1,none⟩=some (.bool Zb)∧w'.cell? ⟨gb661,2,none⟩=some (.slice Ze Za.length Zd)∧w'.cell? ad662=some (.int .i64 ((rd_T38 l2 0).f0))∧w'.cell? ⟨ad662.block,ad662.off+1,none⟩=some (.bool ((rd_T38 l2 0).f1))) (ds:=[]) #[false,false,false,false,false,false,false] (by kernel_rfl) rfl rfl ⟨(Yc Vp.out 0).trans rfl,(Yc Vp.out 1).trans rfl,(Yc Vp.out 2).trans rfl,((HB.out.cell (Yb w _ hw662_0)).trans hw662_0),((HB.out.cell (Yb w _ hw662_1)).trans hw662_1)⟩ (fun hHeld=> ?_);generalize w6.drew=w7 at Vp HB hx662_0 hx662_1 hHeld ⊢;refine pure_ (i:=1) (N:=some 10) (v:= ?_) (a':= ?_) #[false,true,false,false,false,false,false] rfl rfl (by kernel_rfl) (fun _ _ _ h=>h) (Or.inl ⟨by rfl,?_⟩) ?_ ?_
 rotate_left
 ·intro w'
  go_simp
  with_reducible rfl
 rotate_left
 ·simp only[Act.put,List.setIfInBounds_toArray,List.set_cons_zero,List.set_cons_succ,i64_w,i32_w]
  rfl
 refine pure_ (i:=2) (N:=some 11) (v:= ?_) (a':= ?_) #[false,true,true,false,false,false,false] rfl rfl (by kernel_rfl) (fun _ _ _ h=>h) (Or.inl ⟨by rfl,?_⟩) ?_ ?_
 rotate_left
 ·intro w'
  go_simp
  with_reducible rfl
 rotate_left
 ·simp only[Act.put,List.setIfInBounds_toArray,List.set_cons_zero,List.set_cons_succ,i64_w,i32_w]
  rfl
 refine pure_ (i:=3) (N:=some 12) (v:= ?_) (a':= ?_) #[false,true,true,true,false,false,false] rfl rfl (by kernel_rfl) (fun _ _ _ h=>h) (Or.inl ⟨by rfl,?_⟩) ?_ ?_
 rotate_left
 ·intro w'
  go_simp
  with_reducible rfl
 rotate_left
 ·simp only[Act.put,List.setIfInBounds_toArray,List.set_cons_zero,List.set_cons_succ,i64_w,i32_w]
  rfl
 refine take_ (i:=0) (N:=some 9) (v:= ?_) (a':= ?_) #[true,true,true,true,false,false,false] rfl rfl (by kernel_rfl) (fun _ _ _ h=>h) (Or.inl ⟨by rfl,?_⟩) hHeld ?_ ?_
 rotate_left
 ·rintro w' ⟨s0,s1,s2,s3,s4⟩
  go_simp
  with_reducible rfl
 rotate_left
 ·simp only[Act.put,List.setIfInBounds_toArray,List.set_cons_zero,List.set_cons_succ,i64_w,i32_w]
  rfl
 refine take_ (i:=4) (N:=some 13) (v:= ?_) (a':= ?_) #[true,true,true,true,true,false,false] rfl rfl (by kernel_rfl) (fun _ _ _ h=>h) (Or.inl ⟨by rfl,?_⟩) hHeld ?_ ?_
 rotate_left
 ·rintro w' ⟨s0,s1,s2,s3,s4⟩
  go_simp
  with_reducible rfl
 rotate_left
 ·simp only[Act.put,List.setIfInBounds_toArray,List.set_cons_zero,List.set_cons_succ,i64_w,i32_w]
  rfl
 refine one_ (i:=5) (N:=some 14) #[true,true,true,true,true,true,false] rfl rfl (by kernel_rfl) (by decide) (fun K hK=> ?_);refine goes_ Try.func113 (by kernel_rfl) rfl #[.agg #[.int .i64 Zc, .bool Zb, .slice Ze Za.length Zd], .slice A1 l1.length c1, .agg #[.int .i64 ((rd_T38 l2 0).f0), .bool ((rd_T38 l2 0).f1)]] (by rfl) rfl rfl (by(try simp only[List.map_toArray,List.map_cons,List.map_nil]);first|done|rfl|(simp only[List.length_drop,List.length_take];rfl)) ?_
 with_reducible refine(ebbtideref07_Left.calls Zc Zb _ _ Za _ _ l1 ((rd_T38 l2 0).f0) ((rd_T38 l2 0).f1) t663 _ ?side1 ?side2 ?side3 ?side4 A5.out).mono ?_
 (case side1=>repeat(first|exact(Yt Zl.out HB.out)|(with_reducible refine Kd.C_alloc ?_ _)|(with_reducible refine Kd.C_drewN ?_ _)|(with_reducible refine Kd.C_drew ?_)))
 (case side2=>exact Zv.out)
 (case side3=>repeat(first|exact(Yt HR1.out HB.out)|(with_reducible refine Kd.C_alloc ?_ _)|(with_reducible refine Kd.C_drewN ?_ _)|(with_reducible refine Kd.C_drew ?_)))
 (case side4=>exact HC1.out)
 rintro e w8 ⟨rfl,hb⟩;refine⟨_,rfl,?_⟩;have n0_:=Ya (Yn (g:=gb661) (o:= .cells #[.int .i64 Zc, .bool Zb, .slice Ze Za.length Zd] 24 (0,0)) (by(with_reducible repeat(first|refine Yl ?_ _|refine Ym ?_|refine Yj ?_ _));exact Vp.out) hb);have n1_:=Ya (Yk (by repeat(first|(with_reducible first|exact HB.out|apply Ye|apply Yd|apply Yg|refine Yh ?_ GE661.out)|exact HB.out)) hb);clear Vp;clear HB;have Vp:=n0_;have HB:=n1_;clear n0_ n1_
 (try clear hb)
 (try clear hb2)
 (try clear hk)
 (try clear hi)
 refine hK.out _ _ ⟨(Yc Vp.out 0).trans rfl,(Yc Vp.out 1).trans rfl,(Yc Vp.out 2).trans rfl,((HB.out.cell (Yb w _ hw662_0)).trans hw662_0),((HB.out.cell (Yb w _ hw662_1)).trans hw662_1)⟩ (fun hHeld=> ?_);clear hK K;refine norm_ (a':= ?_) ?_ ?_
 rotate_left
 ·show Act.put _ (some 14) _=_
  simp only[Act.put,List.setIfInBounds_toArray,List.set_cons_zero,List.set_cons_succ,i64_w,i32_w];rfl
 refine pure_ (i:=6) (N:=some 7) (v:= ?_) (a':= ?_) #[true,true,true,true,true,true,true] rfl rfl (by kernel_rfl) (fun _ _ _ h=>h) (Or.inl ⟨by rfl,?_⟩) ?_ ?_
 rotate_left
 ·intro w'
  go_simp
  with_reducible rfl
 rotate_left
 ·simp only[Act.put,List.setIfInBounds_toArray,List.set_cons_zero,List.set_cons_succ,i64_w,i32_w]
  rfl
 refine done_ (by kernel_rfl) ?_;try go_wp2
 go_loopg [7,8] k (fun kq v7 v8 w'=> ∃ (Wi:Int) (Zn:Int),v7= .int .i64 Wi∧v8= .int .i64 Zn∧Aside0 (ebbtideref08_Bottle.l0 kq l1 l2 Wi Zn Zc Zb Za=some r)∧Aside0 (kq≤k)∧Aside0 (w'.heap[gb661]? =some (.cells #[.int .i64 Zc, .bool Zb,(.slice Ze Za.length Zd)] 24 (0,0)))∧Aside0 (Below w.heap.size w w'))
 case atStart=>exact⟨(t663),(1),(by first|rfl|(simp;done)|(simp[*];done)),(by first|rfl|(simp;done)|(simp[*];done)),H',⟨Nat.le_refl _⟩,⟨by(with_reducible repeat(first|refine Yl ?_ _|refine Ym ?_|refine Yj ?_ _));exact Vp.out⟩,⟨by repeat(first|(with_reducible first|exact HB.out|apply Ye|apply Yd|apply Yg|refine Yh ?_ GE661.out)|exact HB.out)⟩⟩
 case round=>
  clear H';try clear c1
  try clear c2
  try clear p2
  try clear c4
  try clear c4b0
  try clear c4b1
  try clear c6
  try clear p6
  try clear q6
  try clear hx6
  try clear qi6
  try clear hx662_0
  try clear hx662_1
  try clear p662
  try clear q662
  obtain⟨Wi,Zn,rfl,rfl,HA,HK1,Vp,HB⟩:=hrel;cases gk with
  |zero=>exact absurd HA.out (by simp[ebbtideref08_Bottle.l0])
  |succ k1=>
   have H:=HA.out;clear HA;simp only[ebbtideref08_Bottle.l0] at H;by_cases c9:Zn<(l2.length:Int)
   rotate_left
   ·rw[Yy c9] at H
    have c9b0:decide (Zn<(l2.length:Int))=false:=Yw c9;clear c9;obtain rfl:=Option.some.inj H;go_wp2;go_ret;exact⟨by first|rfl|(simp[errW_none,errW_some]<;>rfl)|(simp[*,errW_none,errW_some]<;>rfl),by repeat(first|(with_reducible first|exact HB.out|apply Ye|apply Yd|apply Yg|refine Yh ?_ GE661.out)|exact HB.out)⟩
   rw[Yx c9] at H;have c9b0:decide (Zn<(l2.length:Int))=true:=Yv c9;clear c9;by_cases c10:0≤Zn
   rotate_left
   ·rw[Yy c10] at H
    exact absurd H (by simp)
   rw[Yx c10] at H;have c10b0:decide (0≤Zn)=true:=Yv c10;clear c10;replace H:=Option.bind_eq_some_iff.mp H;obtain⟨t665,A110,H⟩:=H;replace H:(ebbtideref08_Bottle.l0 k1 l1 l2 (mn Wi t665) (wrap64 (Zn+1)) Zc Zb Za)=some r:=H;have A11:=Ya A110;clear A110;obtain⟨ji12,hji12⟩: ∃ j_:Int,(mn Wi t665)=j_:=⟨_,rfl⟩;replace H:(ebbtideref08_Bottle.l0 k1 l1 l2 ji12 (wrap64 (Zn+1)) Zc Zb Za)=some r:=by first|(rw[hji12] at H;exact H)|(simp only[hji12] at H ⊢;exact H)
   (try rw[hji12] at A11)
   have hji12_:(if t665<Wi then t665 else Wi)=ji12:=hji12;have H':=Ya H;clear H;try go_wp2
   have n0_:=Ya (Ym Vp.out);have n1_:=Ya (Yg HB.out);clear Vp;clear HB;have Vp:=n0_;have HB:=n1_;clear n0_ n1_;have p664:0≤(Zn:Int):=Yu (by first|(with_reducible assumption)|assumption);have q664:Zn<(l2.length:Int):=Yu (by first|(with_reducible assumption)|assumption);obtain⟨ad664,e664,hx664_0,hx664_1⟩:=at_T38 HR2.out Zn p664 q664;have hw664_1:=hx664_1;have hw664_0:=hx664_0;obtain rfl:ad662=ad664:=(by injection e664);replace hx664_0:=(HB.out.cell (Yb w _ hx664_0)).trans hx664_0;replace hx664_1:=(HB.out.cell (Yb w _ hx664_1)).trans hx664_1;replace p664:=eq_true p664;replace q664:=eq_true q664;refine start_ (n:=10) (S:=fun w'=>w'.cell? ⟨gb661,0,none⟩=some (.int .i64 Zc)∧w'.cell? ⟨gb661,1,none⟩=some (.bool Zb)∧w'.cell? ⟨gb661,2,none⟩=some (.slice Ze Za.length Zd)∧w'.cell? (ad662.add ((Zn).toNat * 2))=some (.int .i64 ((rd_T38 l2 Zn).f0))∧w'.cell? ⟨(ad662.add ((Zn).toNat * 2)).block,(ad662.add ((Zn).toNat * 2)).off+1,none⟩=some (.bool ((rd_T38 l2 Zn).f1))) (ds:=[]) #[false,false,false,false,false,false,false,false,false,false] (by kernel_rfl) rfl rfl ⟨(Yc Vp.out 0).trans rfl,(Yc Vp.out 1).trans rfl,(Yc Vp.out 2).trans rfl,((HB.out.cell (Yb w _ hw664_0)).trans hw664_0),((HB.out.cell (Yb w _ hw664_1)).trans hw664_1)⟩ (fun hHeld=> ?_);refine with_tabW ebbtideref08_Bottle.tab5 ebbtideref08_Bottle.bits5 (fun HT_ HW_=> ?_);generalize wr.drew=w13 at Vp HB hx664_0 hx664_1 hHeld ⊢;refine pure_ (i:=0) (N:=some 21) (v:= ?_) (a':= ?_) #[true,false,false,false,false,false,false,false,false,false] rfl rfl (any_of HT_.out (by kernel_rfl)) (fun _ _ _ h=>h) (Or.inl ⟨by rfl,?_⟩) ?_ ?_
   rotate_left
   ·intro w'
    go_simp
    with_reducible rfl
   rotate_left
   ·simp only[Act.put,List.setIfInBounds_toArray,List.set_cons_zero,List.set_cons_succ,i64_w,i32_w]
    rfl
   refine pure_ (i:=2) (N:=some 23) (v:= ?_) (a':= ?_) #[true,false,true,false,false,false,false,false,false,false] rfl rfl (any_of HT_.out (by kernel_rfl)) (fun _ _ _ h=>h) (Or.inl ⟨by rfl,?_⟩) ?_ ?_
   rotate_left
   ·intro w'
    go_simp
    with_reducible rfl
   rotate_left
   ·simp only[Act.put,List.setIfInBounds_toArray,List.set_cons_zero,List.set_cons_succ,i64_w,i32_w]
    rfl
   refine pure_ (i:=3) (N:=some 24) (v:= ?_) (a':= ?_) #[true,false,true,true,false,false,false,false,false,false] rfl rfl (any_of HT_.out (by kernel_rfl)) (fun _ _ _ h=>h) (Or.inl ⟨by rfl,?_⟩) ?_ ?_
   rotate_left
   ·intro w'
    go_simp
    with_reducible rfl
   rotate_left
   ·simp only[Act.put,List.setIfInBounds_toArray,List.set_cons_zero,List.set_cons_succ,i64_w,i32_w]
    rfl
   refine pure_ (i:=4) (N:=some 25) (v:= ?_) (a':= ?_) #[true,false,true,true,true,false,false,false,false,false] rfl rfl (any_of HT_.out (by kernel_rfl)) (fun _ _ _ h=>h) (Or.inl ⟨by rfl,?_⟩) ?_ ?_
   rotate_left
   ·intro w'
    go_simp
    with_reducible rfl
   rotate_left
   ·simp only[Act.put,List.setIfInBounds_toArray,List.set_cons_zero,List.set_cons_succ,i64_w,i32_w]
    rfl
   refine pure_ (i:=5) (N:=some 26) (v:= ?_) (a':= ?_) #[true,false,true,true,true,true,false,false,false,false] rfl rfl (any_of HT_.out (by kernel_rfl)) (fun _ _ _ h=>h) (Or.inl ⟨by rfl,?_⟩) ?_ ?_
   rotate_left
   ·intro w'
    go_simp
    with_reducible rfl
   rotate_left
   ·simp only[Act.put,List.setIfInBounds_toArray,List.set_cons_zero,List.set_cons_succ,i64_w,i32_w]
    rfl
   refine take_ (i:=1) (N:=some 22) (v:= ?_) (a':= ?_) #[true,true,true,true,true,true,false,false,false,false] rfl rfl (take_ofW HT_.out HW_.out (by kernel_rfl)) (fun _ _ _ h=>h) (Or.inl ⟨by rfl,?_⟩) hHeld ?_ ?_
   rotate_left
   ·rintro w' ⟨s0,s1,s2,s3,s4⟩
    go_simp
    with_reducible rfl
   rotate_left
   ·simp only[Act.put,List.setIfInBounds_toArray,List.set_cons_zero,List.set_cons_succ,i64_w,i32_w]
    rfl
   refine take_ (i:=6) (N:=some 27) (v:= ?_) (a':= ?_) #[true,true,true,true,true,true,true,false,false,false] rfl rfl (take_ofW HT_.out HW_.out (by kernel_rfl)) (fun _ _ _ h=>h) (Or.inl ⟨by rfl,?_⟩) hHeld ?_ ?_
   rotate_left
   ·rintro w' ⟨s0,s1,s2,s3,s4⟩
    go_simp
    with_reducible rfl
   rotate_left
   ·simp only[Act.put,List.setIfInBounds_toArray,List.set_cons_zero,List.set_cons_succ,i64_w,i32_w]
    rfl
   refine one_ (i:=7) (N:=some 28) #[true,true,true,true,true,true,true,true,false,false] rfl rfl (one_of HT_.out (by kernel_rfl)) (by decide) (fun K hK=> ?_);refine goes_ Try.func113 (by kernel_rfl) rfl #[.agg #[.int .i64 Zc, .bool Zb, .slice Ze Za.length Zd], .slice A1 l1.length c1, .agg #[.int .i64 ((rd_T38 l2 Zn).f0), .bool ((rd_T38 l2 Zn).f1)]] (by rfl) rfl rfl (by(try simp only[List.map_toArray,List.map_cons,List.map_nil]);first|done|rfl|(simp only[List.length_drop,List.length_take];rfl)) ?_
   with_reducible refine(ebbtideref07_Left.calls Zc Zb _ _ Za _ _ l1 ((rd_T38 l2 Zn).f0) ((rd_T38 l2 Zn).f1) t665 _ ?side1 ?side2 ?side3 ?side4 A11.out).mono ?_
   (case side1=>repeat(first|exact(Yt Zl.out HB.out)|(with_reducible refine Kd.C_alloc ?_ _)|(with_reducible refine Kd.C_drewN ?_ _)|(with_reducible refine Kd.C_drew ?_)))
   (case side2=>exact Zv.out)
   (case side3=>repeat(first|exact(Yt HR1.out HB.out)|(with_reducible refine Kd.C_alloc ?_ _)|(with_reducible refine Kd.C_drewN ?_ _)|(with_reducible refine Kd.C_drew ?_)))
   (case side4=>exact HC1.out)
   rintro e w14 ⟨rfl,hb⟩;refine⟨_,rfl,?_⟩;have n0_:=Ya (Yn (g:=gb661) (o:= .cells #[.int .i64 Zc, .bool Zb, .slice Ze Za.length Zd] 24 (0,0)) (by(with_reducible repeat(first|refine Yl ?_ _|refine Ym ?_|refine Yj ?_ _));exact Vp.out) hb);have n1_:=Ya (Yk (by repeat(first|(with_reducible first|exact HB.out|apply Ye|apply Yd|apply Yg|refine Yh ?_ GE661.out)|exact HB.out)) hb);clear Vp;clear HB;have Vp:=n0_;have HB:=n1_;clear n0_ n1_
   (try clear hb)
   (try clear hb2)
   (try clear hk)
   (try clear hi)
   refine hK.out _ _ ⟨(Yc Vp.out 0).trans rfl,(Yc Vp.out 1).trans rfl,(Yc Vp.out 2).trans rfl,((HB.out.cell (Yb w _ hw664_0)).trans hw664_0),((HB.out.cell (Yb w _ hw664_1)).trans hw664_1)⟩ (fun hHeld=> ?_);clear hK K;refine norm_ (a':= ?_) ?_ ?_
   rotate_left
   ·show Act.put _ (some 28) _=_
    simp only[Act.put,List.setIfInBounds_toArray,List.set_cons_zero,List.set_cons_succ,i64_w,i32_w];rfl
   refine pure_ (i:=8) (N:=some 29) (v:= ?_) (a':= ?_) #[true,true,true,true,true,true,true,true,true,false] rfl rfl (any_of HT_.out (by kernel_rfl)) (fun _ _ _ h=>h) (Or.inl ⟨by rfl,?_⟩) ?_ ?_
   rotate_left
   ·intro w'
    go_simp
    with_reducible rfl
   rotate_left
   ·simp only[Act.put,List.setIfInBounds_toArray,List.set_cons_zero,List.set_cons_succ,i64_w,i32_w]
    rfl
   refine pure_ (i:=9) (N:=some 7) (v:= ?_) (a':= ?_) #[true,true,true,true,true,true,true,true,true,true] rfl rfl (any_of HT_.out (by kernel_rfl)) (fun _ _ _ h=>h) (Or.inl ⟨by rfl,?_⟩) ?_ ?_
   rotate_left
   ·intro w'
    go_simp
    with_reducible rfl
   rotate_left
   ·simp only[Act.put,List.setIfInBounds_toArray,List.set_cons_zero,List.set_cons_succ,i64_w,i32_w]
    rfl
   refine done_ (done_of HT_.out (by kernel_rfl)) ?_;try go_wp2
   go_roundg k1
   case measure=>have:=HK1.out;omega
   case rel=>exact⟨(ji12),(wrap64 (Zn+1)),(by first|rfl|(simp;done)|(simp only[← hji12]<;>(first|rfl|simp))|(simp[*];done)),(by first|rfl|(simp;done)|(simp[*];done)),H',⟨by have:=HK1.out;omega⟩,⟨by(with_reducible repeat(first|refine Yl ?_ _|refine Ym ?_|refine Yj ?_ _));exact Vp.out⟩,⟨by repeat(first|(with_reducible first|exact HB.out|apply Ye|apply Yd|apply Yg|refine Yh ?_ GE661.out)|exact HB.out)⟩⟩
end P
namespace P
attribute [local go_sem] max2_int min2_int max_two min_two max_three min_three max_four min_four
def ebbtideref07_Pushed.l0:Nat→List (S38)→Int→List Int→Int→Option (List Int)
 |0,_,_,_,_=>none
 |k+1,x1,x2,x7,x8=>if x8<(x1.length:Int) then(if 0≤x8 then(if (rd_T38 x1 x8).f1=true then(if 0≤((rd_T38 x1 x8).f0) then(if ((rd_T38 x1 x8).f0)<(x7.length:Int) then(ebbtideref07_Pushed.l0 k x1 x2 (x7.set (((rd_T38 x1 x8).f0):Int).toNat (wrap64 ((rd x7 ((rd_T38 x1 x8).f0)) - x2))) (wrap64 (x8+1))) else(none)) else(none)) else(if 0≤((rd_T38 x1 x8).f0) then(if ((rd_T38 x1 x8).f0)<(x7.length:Int) then(ebbtideref07_Pushed.l0 k x1 x2 (x7.set (((rd_T38 x1 x8).f0):Int).toNat (wrap64 ((rd x7 ((rd_T38 x1 x8).f0))+x2))) (wrap64 (x8+1))) else(none)) else(none))) else(none)) else(some x7)
def ebbtideref07_Pushed.f (k:Nat) (l0:List Int) (l1:List (S38)) (a2:Int):Option (List Int):=if ([]:List Int).length+l0.length<17592186044416 then(ebbtideref07_Pushed.l0 k l1 a2 (([]:List Int) ++ l0) 0) else(none)
def ebbtideref07_Pushed.T7:Bool × List (List Nat × List Nat):=(true,[([],[]),([],[]),([],[]),([1,2],[1,2]),([3],[3]),([4],[4]),([],[]),([],[]),([],[]),([7,8],[7,8]),([9],[9]),([10],[10]),([6,11],[6,11]),([12],[12]),([],[]),([13,14],[13,14]),([0,5,0,1,2,3,4,5,6,7,8,9,10,11,12,13,14,15],[0,5]),([16,15,0,1,2,3,4,5,6,7,8,9,10,11,12,13,14,15],[15,16])])
def ebbtideref07_Pushed.B7:List Nat:=[0,0,0,6,14,30,0,0,0,384,896,1920,4032,8128,0,32704,65535,131071]
theorem ebbtideref07_Pushed.tab7:rtab .any (opsOf Try.f130 7)=ebbtideref07_Pushed.T7:=by kernel_rfl
theorem ebbtideref07_Pushed.bits7:waitsOk ebbtideref07_Pushed.T7.2 ebbtideref07_Pushed.B7=true:=by kernel_rfl
def ebbtideref07_Pushed.T8:Bool × List (List Nat × List Nat):=(true,[([],[]),([],[]),([],[]),([1,2],[1,2]),([3],[3]),([4],[4]),([],[]),([],[]),([],[]),([7,8],[7,8]),([9],[9]),([10],[10]),([6,11],[6,11]),([12],[12]),([],[]),([13,14],[13,14]),([0,5,0,1,2,3,4,5,6,7,8,9,10,11,12,13,14,15],[0,5]),([16,15,0,1,2,3,4,5,6,7,8,9,10,11,12,13,14,15],[15,16])])
def ebbtideref07_Pushed.B8:List Nat:=[0,0,0,6,14,30,0,0,0,384,896,1920,4032,8128,0,32704,65535,131071]
theorem ebbtideref07_Pushed.tab8:rtab .any (opsOf Try.f130 8)=ebbtideref07_Pushed.T8:=by kernel_rfl
theorem ebbtideref07_Pushed.bits8:waitsOk ebbtideref07_Pushed.T8.2 ebbtideref07_Pushed.B8=true:=by kernel_rfl
set_option maxHeartbeats 8000000 in
set_option maxRecDepth 100000 in
theorem ebbtideref07_Pushed.calls (k:Nat) (A0:Option Addr) (c0:Nat) (l0:List Int) (A1:Option Addr) (c1:Nat) (l1:List (S38)) (a2:Int) (r:List Int) (w:World) (hr0:Kd.C (Kd.int .i64) w A0 l0.length l0) (hc0:l0.length≤c0) (hr1:Kd.C k38 w A1 l1.length l1) (hc1:l1.length≤c1) (h:ebbtideref07_Pushed.f k l0 l1 a2=some r):
  Calls Try.prog 130 #[.slice A0 l0.length c0, .slice A1 l1.length c1, .int .i64 a2] w fun e w'=> ∃ v0_:Value,e= .returned (v0_)∧Kd.R (Kd.int .i64) 3 w' w.heap.size (fun _=>True) v0_ r∧Below w.heap.size w w':=by
 have HR0:=Ya hr0;have HC0:=Ya hc0;clear hr0 hc0;have HR1:=Ya hr1;have HC1:=Ya hc1;clear hr1 hc1;have HB:=Ya (Yo w.heap.size w);have H:(if ([]:List Int).length+l0.length<17592186044416 then(ebbtideref07_Pushed.l0 k l1 a2 (([]:List Int) ++ l0) 0) else(none))=some r:=h;clear h;by_cases c4:([]:List Int).length+l0.length<17592186044416
 rotate_left
 ·rw[Yy c4] at H
  exact absurd H (by simp)
 rw[Yx c4] at H;have LMc4:=Ya c4;clear c4;obtain⟨y815,hy815⟩: ∃ y_:List Int,y_=(([]:List Int) ++ l0):=⟨_,rfl⟩;replace H:(ebbtideref07_Pushed.l0 k l1 a2 y815 0)=some r:=by first|(rw[hy815];with_reducible exact H)|(have H2_:=(Option.bind_some _ _).symm.trans H;rw[hy815];with_reducible exact H2_)|(have H2_:=(Option.bind_some _ _).symm.trans H;with_reducible exact H2_)|with_reducible exact H|(rw[hy815];exact H)|exact H
 have Ny815:=Ya hy815;clear hy815;have H':=Ya H;clear H;go_enter Try.func130,Try.ntmps130;go_wp2_with (first|((with_reducible refine gate_builtin (b:= .append) (xs:= #[.tmp 9, .tmp 10]) rfl ?_);at_builtin;refine Kd.R_append_rows (Kd.int .i64) (w0:=w) w.heap.size rfl (.tmp 9) (.tmp 10) 25 3 (.int .i64 0) 8 rfl Try.underlying25 info3 rfl (by decide) (by omega) (.slice none 0 0) ([]:List Int) l0 _ _ _ (fun _=>True) (fun _=>False) rfl rfl ?aO ?aR (fun _ _ h=>h) (fun _ h=>h.elim) ?aF ?aB ?aS ?aL ?_;(case aR=>repeat(first|exact HR0.out|(with_reducible refine Kd.C_alloc ?_ _)|(with_reducible refine Kd.C_drewN ?_ _)|(with_reducible refine Kd.C_drew ?_)));(case aB=>exact(by repeat(first|(with_reducible first|exact HB.out|apply Ye|apply Yd|apply Yg)|exact HB.out)));(case aF=>exact(fun _ _=>trivial));(case aO=>exact((Kd.R_nil _ _ _ _ (fun _=>True))));(case aS=>exact(Yi (by repeat(first|(with_reducible first|exact HB.out|apply Ye|apply Yd|apply Yg)|exact HB.out))));(case aL=>have:=LMc4.out;omega);intro v816 w5 ho hb hg hat;rw[← Ny815.out] at ho;have n0_:=Ya (hb);have n1_:=Ya (ho);clear HB;have HB:=n0_;have HO817:=n1_;clear n0_ n1_;clear ho hb hg hat));go_loopg [8] k (fun kq v8 w'=> ∃ (Wi:List Int) (Zn:Int),v8= .int .i64 Zn∧Aside0 (ebbtideref07_Pushed.l0 kq l1 a2 Wi Zn=some r)∧Aside0 (kq≤k)∧Aside0 (Kd.R (Kd.int .i64) 3 w' w.heap.size (fun _=>True) v816 Wi)∧Aside0 (Below w.heap.size w w'))
 case atStart=>exact⟨(y815),(0),(by first|rfl|(simp;done)|(simp[*];done)),H',⟨Nat.le_refl _⟩,⟨by(with_reducible repeat(first|apply Yr|apply Yq|apply Yp));exact HO817.out⟩,⟨by repeat(first|(with_reducible first|exact HB.out|apply Ye|apply Yd|apply Yg)|exact HB.out)⟩⟩
 case round=>
  clear H';try clear c1
  try clear p2
  try clear c4
  obtain⟨Wi,Zn,rfl,HA,HK1,HO_7,HB⟩:=hrel;cases gk with
  |zero=>exact absurd HA.out (by simp[ebbtideref07_Pushed.l0])
  |succ k1=>
   have H:=HA.out;clear HA;simp only[ebbtideref07_Pushed.l0] at H;by_cases c6:Zn<(l1.length:Int)
   rotate_left
   ·rw[Yy c6] at H
    have c6b0:decide (Zn<(l1.length:Int))=false:=Yw c6;clear c6;obtain rfl:=Option.some.inj H;go_wp2;go_ret;exact⟨_,by first|rfl|(simp[errW_none,errW_some]<;>rfl)|(simp[*,errW_none,errW_some]<;>rfl),by(with_reducible repeat(first|apply Yr|apply Yq|apply Yp));exact HO_7.out,by repeat(first|(with_reducible first|exact HB.out|apply Ye|apply Yd|apply Yg)|exact HB.out)⟩
   rw[Yx c6] at H;have c6b0:decide (Zn<(l1.length:Int))=true:=Yv c6;clear c6;by_cases c7:0≤Zn
   rotate_left
   ·rw[Yy c7] at H
    exact absurd H (by simp)
   rw[Yx c7] at H;have c7b0:decide (0≤Zn)=true:=Yv c7;clear c7;obtain⟨bq8,hbq8⟩: ∃ b_:Bool,b_=((rd_T38 l1 Zn).f1):=⟨_,rfl⟩;replace H:(if bq8=true then(if 0≤((rd_T38 l1 Zn).f0) then(if ((rd_T38 l1 Zn).f0)<(Wi.length:Int) then(ebbtideref07_Pushed.l0 k1 l1 a2 (Wi.set (((rd_T38 l1 Zn).f0):Int).toNat (wrap64 ((rd Wi ((rd_T38 l1 Zn).f0)) - a2))) (wrap64 (Zn+1))) else(none)) else(none)) else(if 0≤((rd_T38 l1 Zn).f0) then(if ((rd_T38 l1 Zn).f0)<(Wi.length:Int) then(ebbtideref07_Pushed.l0 k1 l1 a2 (Wi.set (((rd_T38 l1 Zn).f0):Int).toNat (wrap64 ((rd Wi ((rd_T38 l1 Zn).f0))+a2))) (wrap64 (Zn+1))) else(none)) else(none)))=some r:=by rw[← hbq8] at H;exact H
   have Nbq8:=Ya hbq8;clear hbq8;by_cases c9:bq8=true
   ·subst c9
    have H1:(if 0≤((rd_T38 l1 Zn).f0) then(if ((rd_T38 l1 Zn).f0)<(Wi.length:Int) then(ebbtideref07_Pushed.l0 k1 l1 a2 (Wi.set (((rd_T38 l1 Zn).f0):Int).toNat (wrap64 ((rd Wi ((rd_T38 l1 Zn).f0)) - a2))) (wrap64 (Zn+1))) else(none)) else(none))=some r:=by first|(rw[Yx rfl] at H;exact H)|(rw[Yx trivial] at H;exact H)
    clear H;have H:=H1;clear H1;by_cases c10:0≤((rd_T38 l1 Zn).f0)
    rotate_left
    ·rw[Yy c10] at H
     exact absurd H (by simp)
    rw[Yx c10] at H;have c10b0:decide (0≤((rd_T38 l1 Zn).f0))=true:=Yv c10;clear c10;by_cases c11:((rd_T38 l1 Zn).f0)<(Wi.length:Int)
    rotate_left
    ·rw[Yy c11] at H
     exact absurd H (by simp)
    rw[Yx c11] at H;have c11b0:decide (((rd_T38 l1 Zn).f0)<(Wi.length:Int))=true:=Yv c11;clear c11;obtain⟨y822,hy822⟩: ∃ y_:List Int,y_=(Wi.set (((rd_T38 l1 Zn).f0):Int).toNat (wrap64 ((rd Wi ((rd_T38 l1 Zn).f0)) - a2))):=⟨_,rfl⟩;replace H:(ebbtideref07_Pushed.l0 k1 l1 a2 y822 (wrap64 (Zn+1)))=some r:=by first|(rw[hy822];with_reducible exact H)|(have H2_:=(Option.bind_some _ _).symm.trans H;rw[hy822];with_reducible exact H2_)|(have H2_:=(Option.bind_some _ _).symm.trans H;with_reducible exact H2_)|with_reducible exact H|(rw[hy822];exact H)|exact H
    have Ny822:=Ya hy822;clear hy822;have H':=Ya H;clear H;have p818:0≤(Zn:Int):=Yu (by first|(with_reducible assumption)|assumption);have q818:Zn<(l1.length:Int):=Yu (by first|(with_reducible assumption)|assumption);obtain⟨ad818,e818,hx818_0,hx818_1⟩:=at_T38 HR1.out Zn p818 q818
    (try rw[← Nbq8.out] at hx818_1)
    cases e818;replace hx818_0:=(HB.out.cell (Yb w _ hx818_0)).trans hx818_0;replace hx818_1:=(HB.out.cell (Yb w _ hx818_1)).trans hx818_1;replace p818:=eq_true p818;replace q818:=eq_true q818;try go_wp2
    have n0_:=Ya (Yp HO_7.out);have n1_:=Ya (Yg HB.out);clear HO_7;clear HB;have HO_7:=n0_;have HB:=n1_;clear n0_ n1_;have p819:0≤(Zn:Int):=Yu (by first|(with_reducible assumption)|assumption);have q819:Zn<(l1.length:Int):=Yu (by first|(with_reducible assumption)|assumption);obtain⟨ad819,e819,hx819_0,hx819_1⟩:=at_T38 HR1.out Zn p819 q819;have hw819_1:=hx819_1;have hw819_0:=hx819_0
    (try rw[← Nbq8.out] at hx819_1)
    (try rw[← Nbq8.out] at hw819_1)
    obtain rfl:ad818=ad819:=(by injection e819);replace hx819_0:=(HB.out.cell (Yb w _ hx819_0)).trans hx819_0;replace hx819_1:=(HB.out.cell (Yb w _ hx819_1)).trans hx819_1;replace p819:=eq_true p819;replace q819:=eq_true q819;have p820:0≤(Zn:Int):=Yu (by first|(with_reducible assumption)|assumption);have q820:Zn<(l1.length:Int):=Yu (by first|(with_reducible assumption)|assumption);obtain⟨ad820,e820,hx820_0,hx820_1⟩:=at_T38 HR1.out Zn p820 q820;have hw820_1:=hx820_1;have hw820_0:=hx820_0
    (try rw[← Nbq8.out] at hx820_1)
    (try rw[← Nbq8.out] at hw820_1)
    obtain rfl:ad818=ad820:=(by injection e820);replace hx820_0:=(HB.out.cell (Yb w _ hx820_0)).trans hx820_0;replace hx820_1:=(HB.out.cell (Yb w _ hx820_1)).trans hx820_1;replace p820:=eq_true p820;replace q820:=eq_true q820;obtain⟨Ao14,co14,eo14⟩:=Kd.R_slice HO_7.out
    (first|subst eo14|(injection eo14 with f1_ f2_ f3_;have f4_:=f1_.symm;have f5_:=f3_.symm;clear f1_ f2_ f3_;subst f4_;subst f5_))
    have p821:0≤(((rd_T38 l1 Zn).f0):Int):=Yu (by first|(with_reducible assumption)|assumption);have q821:((rd_T38 l1 Zn).f0)<(Wi.length:Int):=Yu (by first|(with_reducible assumption)|assumption);obtain⟨ad821,e821,hx821_0⟩:=Kd.at_int (Kd.R_reads' HO_7.out).2.2 ((rd_T38 l1 Zn).f0) p821 q821;cases e821;replace p821:=eq_true p821;replace q821:=eq_true q821;have p12:0≤(((rd_T38 l1 Zn).f0):Int):=Yu (by first|(with_reducible assumption)|assumption);have q12:(((rd_T38 l1 Zn).f0):Int)<((Wi.length:Int):Int):=Yu (by first|(with_reducible assumption)|assumption);obtain⟨go12,co12,eo12,gb12,gl12,cl12,HG12⟩:=Kd.R_form HO_7.out (by omega)
    (first|cases eo12|(injection eo12 with ea_ en_ ec_;(first|subst ea_|(injection ea_ with ea_;subst ea_));subst ec_;clear en_))
    have GB12:=Ya gb12;have GG12:=Ya HG12;clear gb12 gl12 HG12
    (first|simp only[add_plain] at hx821_0|skip)
    obtain⟨hx12_0,hf12_0⟩:=Kd.R_celln 0 HO_7.out (((rd_T38 l1 Zn).f0):Int) p12 q12;replace p12:=eq_true p12;replace q12:=eq_true q12;have HP15:=Kd.R_putn HO_7.out (((rd_T38 l1 Zn).f0):Int) (wrap64 ((rd Wi ((rd_T38 l1 Zn).f0)) - a2));rw[← Ny822.out] at HP15;have HQ15:=Ya HP15;clear HP15;refine start_ (n:=18) (S:=fun w'=>w'.cell? (ad818.add ((Zn).toNat * 2))=some (.int .i64 ((rd_T38 l1 Zn).f0))∧w'.cell? ⟨(ad818.add ((Zn).toNat * 2)).block,(ad818.add ((Zn).toNat * 2)).off+1,none⟩=some (.bool (true))∧w'.cell? (ad818.add ((Zn).toNat * 2))=some (.int .i64 ((rd_T38 l1 Zn).f0))∧w'.cell? ⟨(ad818.add ((Zn).toNat * 2)).block,(ad818.add ((Zn).toNat * 2)).off+1,none⟩=some (.bool (true))∧w'.cell? ⟨go12,(((rd_T38 l1 Zn).f0)).toNat,none⟩=some (.int .i64 (rd Wi ((rd_T38 l1 Zn).f0)))) (ds:=[17]) #[false,false,false,false,false,false,false,false,false,false,false,false,false,false,false,false,false,false] (by kernel_rfl) rfl rfl ⟨((HB.out.cell (Yb w _ hw819_0)).trans hw819_0),((HB.out.cell (Yb w _ hw819_1)).trans hw819_1),((HB.out.cell (Yb w _ hw820_0)).trans hw820_0),((HB.out.cell (Yb w _ hw820_1)).trans hw820_1),hx821_0⟩ (fun hHeld=> ?_);refine with_tabW ebbtideref07_Pushed.tab7 ebbtideref07_Pushed.bits7 (fun HT_ HW_=> ?_);generalize wr.drew=w13 at HO_7 HB GG12 HQ15 hf12_0 hx12_0 hx819_0 hx819_1 hx820_0 hx820_1 hx821_0 hHeld ⊢;refine pure_ (i:=0) (N:=some 23) (v:= ?_) (a':= ?_) #[true,false,false,false,false,false,false,false,false,false,false,false,false,false,false,false,false,false] rfl rfl (any_of HT_.out (by kernel_rfl)) (fun _ _ _ h=>h) (Or.inl ⟨by rfl,?_⟩) ?_ ?_
    rotate_left
    ·intro w'
     go_simp
     with_reducible rfl
    rotate_left
    ·simp only[Act.put,List.setIfInBounds_toArray,List.set_cons_zero,List.set_cons_succ,i64_w,i32_w]
     rfl
    refine pure_ (i:=1) (N:=some 24) (v:= ?_) (a':= ?_) #[true,true,false,false,false,false,false,false,false,false,false,false,false,false,false,false,false,false] rfl rfl (any_of HT_.out (by kernel_rfl)) (fun _ _ _ h=>h) (Or.inl ⟨by rfl,?_⟩) ?_ ?_
    rotate_left
    ·intro w'
     go_simp
     with_reducible rfl
    rotate_left
    ·simp only[Act.put,List.setIfInBounds_toArray,List.set_cons_zero,List.set_cons_succ,i64_w,i32_w]
     rfl
    refine pure_ (i:=2) (N:=some 25) (v:= ?_) (a':= ?_) #[true,true,true,false,false,false,false,false,false,false,false,false,false,false,false,false,false,false] rfl rfl (any_of HT_.out (by kernel_rfl)) (fun _ _ _ h=>h) (Or.inl ⟨by rfl,?_⟩) ?_ ?_
    rotate_left
    ·intro w'
     go_simp
     with_reducible rfl
    rotate_left
    ·simp only[Act.put,List.setIfInBounds_toArray,List.set_cons_zero,List.set_cons_succ,i64_w,i32_w]
     rfl
    refine pure_ (i:=3) (N:=some 26) (v:= ?_) (a':= ?_) #[true,true,true,true,false,false,false,false,false,false,false,false,false,false,false,false,false,false] rfl rfl (any_of HT_.out (by kernel_rfl)) (fun _ _ _ h=>h) (Or.inl ⟨by rfl,?_⟩) ?_ ?_
    rotate_left
    ·intro w'
     go_simp
     with_reducible rfl
    rotate_left
    ·simp only[Act.put,List.setIfInBounds_toArray,List.set_cons_zero,List.set_cons_succ,i64_w,i32_w]
     rfl
    refine pure_ (i:=4) (N:=some 27) (v:= ?_) (a':= ?_) #[true,true,true,true,true,false,false,false,false,false,false,false,false,false,false,false,false,false] rfl rfl (any_of HT_.out (by kernel_rfl)) (fun _ _ _ h=>h) (Or.inl ⟨by rfl,?_⟩) ?_ ?_
    rotate_left
    ·intro w'
     go_simp
     with_reducible rfl
    rotate_left
    ·simp only[Act.put,List.setIfInBounds_toArray,List.set_cons_zero,List.set_cons_succ,i64_w,i32_w]
     rfl
    refine pure_ (i:=6) (N:=some 29) (v:= ?_) (a':= ?_) #[true,true,true,true,true,false,true,false,false,false,false,false,false,false,false,false,false,false] rfl rfl (any_of HT_.out (by kernel_rfl)) (fun _ _ _ h=>h) (Or.inl ⟨by rfl,?_⟩) ?_ ?_
    rotate_left
    ·intro w'
     go_simp
     with_reducible rfl
    rotate_left
    ·simp only[Act.put,List.setIfInBounds_toArray,List.set_cons_zero,List.set_cons_succ,i64_w,i32_w]
     rfl
    refine pure_ (i:=7) (N:=some 30) (v:= ?_) (a':= ?_) #[true,true,true,true,true,false,true,true,false,false,false,false,false,false,false,false,false,false] rfl rfl (any_of HT_.out (by kernel_rfl)) (fun _ _ _ h=>h) (Or.inl ⟨by rfl,?_⟩) ?_ ?_
    rotate_left
    ·intro w'
     go_simp
     with_reducible rfl
    rotate_left
    ·simp only[Act.put,List.setIfInBounds_toArray,List.set_cons_zero,List.set_cons_succ,i64_w,i32_w]
     rfl
    refine pure_ (i:=8) (N:=some 31) (v:= ?_) (a':= ?_) #[true,true,true,true,true,false,true,true,true,false,false,false,false,false,false,false,false,false] rfl rfl (any_of HT_.out (by kernel_rfl)) (fun _ _ _ h=>h) (Or.inl ⟨by rfl,?_⟩) ?_ ?_
    rotate_left
    ·intro w'
     go_simp
     with_reducible rfl
    rotate_left
    ·simp only[Act.put,List.setIfInBounds_toArray,List.set_cons_zero,List.set_cons_succ,i64_w,i32_w]
     rfl
    refine pure_ (i:=9) (N:=some 32) (v:= ?_) (a':= ?_) #[true,true,true,true,true,false,true,true,true,true,false,false,false,false,false,false,false,false] rfl rfl (any_of HT_.out (by kernel_rfl)) (fun _ _ _ h=>h) (Or.inl ⟨by rfl,?_⟩) ?_ ?_
    rotate_left
    ·intro w'
     go_simp
     with_reducible rfl
    rotate_left
    ·simp only[Act.put,List.setIfInBounds_toArray,List.set_cons_zero,List.set_cons_succ,i64_w,i32_w]
     rfl
    refine pure_ (i:=10) (N:=some 33) (v:= ?_) (a':= ?_) #[true,true,true,true,true,false,true,true,true,true,true,false,false,false,false,false,false,false] rfl rfl (any_of HT_.out (by kernel_rfl)) (fun _ _ _ h=>h) (Or.inl ⟨by rfl,?_⟩) ?_ ?_
    rotate_left
    ·intro w'
     go_simp
     with_reducible rfl
    rotate_left
    ·simp only[Act.put,List.setIfInBounds_toArray,List.set_cons_zero,List.set_cons_succ,i64_w,i32_w]
     rfl
    refine pure_ (i:=14) (N:=some 37) (v:= ?_) (a':= ?_) #[true,true,true,true,true,false,true,true,true,true,true,false,false,false,true,false,false,false] rfl rfl (any_of HT_.out (by kernel_rfl)) (fun _ _ _ h=>h) (Or.inl ⟨by rfl,?_⟩) ?_ ?_
    rotate_left
    ·intro w'
     go_simp
     with_reducible rfl
    rotate_left
    ·simp only[Act.put,List.setIfInBounds_toArray,List.set_cons_zero,List.set_cons_succ,i64_w,i32_w]
     rfl
    refine take_ (i:=5) (N:=some 28) (v:= ?_) (a':= ?_) #[true,true,true,true,true,true,true,true,true,true,true,false,false,false,true,false,false,false] rfl rfl (take_ofW HT_.out HW_.out (by kernel_rfl)) (fun _ _ _ h=>h) (Or.inl ⟨by rfl,?_⟩) hHeld ?_ ?_
    rotate_left
    ·rintro w' ⟨s0,s1,s2,s3,s4⟩
     go_simp
     with_reducible rfl
    rotate_left
    ·simp only[Act.put,List.setIfInBounds_toArray,List.set_cons_zero,List.set_cons_succ,i64_w,i32_w]
     rfl
    refine take_ (i:=11) (N:=some 34) (v:= ?_) (a':= ?_) #[true,true,true,true,true,true,true,true,true,true,true,true,false,false,true,false,false,false] rfl rfl (take_ofW HT_.out HW_.out (by kernel_rfl)) (fun _ _ _ h=>h) (Or.inl ⟨by rfl,?_⟩) hHeld ?_ ?_
    rotate_left
    ·rintro w' ⟨s0,s1,s2,s3,s4⟩
     go_simp
     with_reducible rfl
    rotate_left
    ·simp only[Act.put,List.setIfInBounds_toArray,List.set_cons_zero,List.set_cons_succ,i64_w,i32_w]
     rfl
    refine pure_ (i:=12) (N:=some 35) (v:= ?_) (a':= ?_) #[true,true,true,true,true,true,true,true,true,true,true,true,true,false,true,false,false,false] rfl rfl (any_of HT_.out (by kernel_rfl)) (fun _ _ _ h=>h) (Or.inl ⟨by rfl,?_⟩) ?_ ?_
    rotate_left
    ·intro w'
     go_simp
     with_reducible rfl
    rotate_left
    ·simp only[Act.put,List.setIfInBounds_toArray,List.set_cons_zero,List.set_cons_succ,i64_w,i32_w]
     rfl
    refine take_ (i:=13) (N:=some 36) (v:= ?_) (a':= ?_) #[true,true,true,true,true,true,true,true,true,true,true,true,true,true,true,false,false,false] rfl rfl (take_ofW HT_.out HW_.out (by kernel_rfl)) (fun _ _ _ h=>h) (Or.inl ⟨by rfl,?_⟩) hHeld ?_ ?_
    rotate_left
    ·rintro w' ⟨s0,s1,s2,s3,s4⟩
     go_simp
     with_reducible rfl
    rotate_left
    ·simp only[Act.put,List.setIfInBounds_toArray,List.set_cons_zero,List.set_cons_succ,i64_w,i32_w]
     rfl
    refine pure_ (i:=15) (N:=some 38) (v:= ?_) (a':= ?_) #[true,true,true,true,true,true,true,true,true,true,true,true,true,true,true,true,false,false] rfl rfl (any_of HT_.out (by kernel_rfl)) (fun _ _ _ h=>h) (Or.inl ⟨by rfl,?_⟩) ?_ ?_
    rotate_left
    ·intro w'
     go_simp
     with_reducible rfl
    rotate_left
    ·simp only[Act.put,List.setIfInBounds_toArray,List.set_cons_zero,List.set_cons_succ,i64_w,i32_w]
     rfl
    refine pure_ (i:=16) (N:=some 39) (v:= ?_) (a':= ?_) #[true,true,true,true,true,true,true,true,true,true,true,true,true,true,true,true,true,false] rfl rfl (any_of HT_.out (by kernel_rfl)) (fun _ _ _ h=>h) (Or.inl ⟨by rfl,?_⟩) ?_ ?_
    rotate_left
    ·intro w'
     go_simp
     with_reducible rfl
    rotate_left
    ·simp only[Act.put,List.setIfInBounds_toArray,List.set_cons_zero,List.set_cons_succ,i64_w,i32_w]
     rfl
    refine last_ (i:=17) (N:=none) #[true,true,true,true,true,true,true,true,true,true,true,true,true,true,true,true,true,true] rfl rfl (one_of HT_.out (by kernel_rfl)) (by decide) (fun K hK=> ?_);refine skip_ (w1:= ?_) (by rfl) rfl ?_ ?_
    rotate_left
    ·go_simp
     rfl
    refine hK.out _ _ ?_;clear hK K;refine done_ (done_of HT_.out (by kernel_rfl)) ?_;try go_wp2
    go_roundg k1
    case measure=>have:=HK1.out;omega
    case rel=>exact⟨(y822),(wrap64 (Zn+1)),(by first|rfl|(simp;done)|(simp[*];done)),H',⟨by have:=HK1.out;omega⟩,⟨by(with_reducible repeat(first|apply Yr|apply Yq|apply Yp));exact HQ15.out⟩,⟨by repeat(first|(with_reducible first|exact HB.out|apply Ye|apply Yd|apply Yg|refine Yh ?_ GB12.out)|exact HB.out)⟩⟩
   replace c9:=Bool.eq_false_iff.mpr c9;subst c9;have H1:(if 0≤((rd_T38 l1 Zn).f0) then(if ((rd_T38 l1 Zn).f0)<(Wi.length:Int) then(ebbtideref07_Pushed.l0 k1 l1 a2 (Wi.set (((rd_T38 l1 Zn).f0):Int).toNat (wrap64 ((rd Wi ((rd_T38 l1 Zn).f0))+a2))) (wrap64 (Zn+1))) else(none)) else(none))=some r:=by rw[Yy (show ¬ (false=true) by decide)] at H;exact H
   clear H;have H:=H1;clear H1;by_cases c16:0≤((rd_T38 l1 Zn).f0)
   rotate_left
   ·rw[Yy c16] at H
    exact absurd H (by simp)
   rw[Yx c16] at H;have c16b0:decide (0≤((rd_T38 l1 Zn).f0))=true:=Yv c16;clear c16;by_cases c17:((rd_T38 l1 Zn).f0)<(Wi.length:Int)
   rotate_left
   ·rw[Yy c17] at H
    exact absurd H (by simp)
   rw[Yx c17] at H;have c17b0:decide (((rd_T38 l1 Zn).f0)<(Wi.length:Int))=true:=Yv c17;clear c17;obtain⟨y826,hy826⟩: ∃ y_:List Int,y_=(Wi.set (((rd_T38 l1 Zn).f0):Int).toNat (wrap64 ((rd Wi ((rd_T38 l1 Zn).f0))+a2))):=⟨_,rfl⟩;replace H:(ebbtideref07_Pushed.l0 k1 l1 a2 y826 (wrap64 (Zn+1)))=some r:=by first|(rw[hy826];with_reducible exact H)|(have H2_:=(Option.bind_some _ _).symm.trans H;rw[hy826];with_reducible exact H2_)|(have H2_:=(Option.bind_some _ _).symm.trans H;with_reducible exact H2_)|with_reducible exact H|(rw[hy826];exact H)|exact H
   have Ny826:=Ya hy826;clear hy826;have H':=Ya H;clear H;have p818:0≤(Zn:Int):=Yu (by first|(with_reducible assumption)|assumption);have q818:Zn<(l1.length:Int):=Yu (by first|(with_reducible assumption)|assumption);obtain⟨ad818,e818,hx818_0,hx818_1⟩:=at_T38 HR1.out Zn p818 q818
   (try rw[← Nbq8.out] at hx818_1)
   cases e818;replace hx818_0:=(HB.out.cell (Yb w _ hx818_0)).trans hx818_0;replace hx818_1:=(HB.out.cell (Yb w _ hx818_1)).trans hx818_1;replace p818:=eq_true p818;replace q818:=eq_true q818;try go_wp2
   have n0_:=Ya (Yp HO_7.out);have n1_:=Ya (Yg HB.out);clear HO_7;clear HB;have HO_7:=n0_;have HB:=n1_;clear n0_ n1_;have p823:0≤(Zn:Int):=Yu (by first|(with_reducible assumption)|assumption);have q823:Zn<(l1.length:Int):=Yu (by first|(with_reducible assumption)|assumption);obtain⟨ad823,e823,hx823_0,hx823_1⟩:=at_T38 HR1.out Zn p823 q823;have hw823_1:=hx823_1;have hw823_0:=hx823_0
   (try rw[← Nbq8.out] at hx823_1)
   (try rw[← Nbq8.out] at hw823_1)
   obtain rfl:ad818=ad823:=(by injection e823);replace hx823_0:=(HB.out.cell (Yb w _ hx823_0)).trans hx823_0;replace hx823_1:=(HB.out.cell (Yb w _ hx823_1)).trans hx823_1;replace p823:=eq_true p823;replace q823:=eq_true q823;have p824:0≤(Zn:Int):=Yu (by first|(with_reducible assumption)|assumption);have q824:Zn<(l1.length:Int):=Yu (by first|(with_reducible assumption)|assumption);obtain⟨ad824,e824,hx824_0,hx824_1⟩:=at_T38 HR1.out Zn p824 q824;have hw824_1:=hx824_1;have hw824_0:=hx824_0
   (try rw[← Nbq8.out] at hx824_1)
   (try rw[← Nbq8.out] at hw824_1)
   obtain rfl:ad818=ad824:=(by injection e824);replace hx824_0:=(HB.out.cell (Yb w _ hx824_0)).trans hx824_0;replace hx824_1:=(HB.out.cell (Yb w _ hx824_1)).trans hx824_1;replace p824:=eq_true p824;replace q824:=eq_true q824;obtain⟨Ao20,co20,eo20⟩:=Kd.R_slice HO_7.out
   (first|subst eo20|(injection eo20 with f1_ f2_ f3_;have f4_:=f1_.symm;have f5_:=f3_.symm;clear f1_ f2_ f3_;subst f4_;subst f5_))
   have p825:0≤(((rd_T38 l1 Zn).f0):Int):=Yu (by first|(with_reducible assumption)|assumption);have q825:((rd_T38 l1 Zn).f0)<(Wi.length:Int):=Yu (by first|(with_reducible assumption)|assumption);obtain⟨ad825,e825,hx825_0⟩:=Kd.at_int (Kd.R_reads' HO_7.out).2.2 ((rd_T38 l1 Zn).f0) p825 q825;cases e825;replace p825:=eq_true p825;replace q825:=eq_true q825;have p18:0≤(((rd_T38 l1 Zn).f0):Int):=Yu (by first|(with_reducible assumption)|assumption);have q18:(((rd_T38 l1 Zn).f0):Int)<((Wi.length:Int):Int):=Yu (by first|(with_reducible assumption)|assumption);obtain⟨go18,co18,eo18,gb18,gl18,cl18,HG18⟩:=Kd.R_form HO_7.out (by omega)
   (first|cases eo18|(injection eo18 with ea_ en_ ec_;(first|subst ea_|(injection ea_ with ea_;subst ea_));subst ec_;clear en_))
   have GB18:=Ya gb18;have GG18:=Ya HG18;clear gb18 gl18 HG18
   (first|simp only[add_plain] at hx825_0|skip)
   obtain⟨hx18_0,hf18_0⟩:=Kd.R_celln 0 HO_7.out (((rd_T38 l1 Zn).f0):Int) p18 q18;replace p18:=eq_true p18;replace q18:=eq_true q18;have HP21:=Kd.R_putn HO_7.out (((rd_T38 l1 Zn).f0):Int) (wrap64 ((rd Wi ((rd_T38 l1 Zn).f0))+a2));rw[← Ny826.out] at HP21;have HQ21:=Ya HP21;clear HP21;refine start_ (n:=18) (S:=fun w'=>w'.cell? (ad818.add ((Zn).toNat * 2))=some (.int .i64 ((rd_T38 l1 Zn).f0))∧w'.cell? ⟨(ad818.add ((Zn).toNat * 2)).block,(ad818.add ((Zn).toNat * 2)).off+1,none⟩=some (.bool (false))∧w'.cell? (ad818.add ((Zn).toNat * 2))=some (.int .i64 ((rd_T38 l1 Zn).f0))∧w'.cell? ⟨(ad818.add ((Zn).toNat * 2)).block,(ad818.add ((Zn).toNat * 2)).off+1,none⟩=some (.bool (false))∧w'.cell? ⟨go18,(((rd_T38 l1 Zn).f0)).toNat,none⟩=some (.int .i64 (rd Wi ((rd_T38 l1 Zn).f0)))) (ds:=[17]) #[false,false,false,false,false,false,false,false,false,false,false,false,false,false,false,false,false,false] (by kernel_rfl) rfl rfl ⟨((HB.out.cell (Yb w _ hw823_0)).trans hw823_0),((HB.out.cell (Yb w _ hw823_1)).trans hw823_1),((HB.out.cell (Yb w _ hw824_0)).trans hw824_0),((HB.out.cell (Yb w _ hw824_1)).trans hw824_1),hx825_0⟩ (fun hHeld=> ?_);refine with_tabW ebbtideref07_Pushed.tab8 ebbtideref07_Pushed.bits8 (fun HT_ HW_=> ?_);generalize wr.drew=w19 at HO_7 HB GG18 HQ21 hf18_0 hx18_0 hx823_0 hx823_1 hx824_0 hx824_1 hx825_0 hHeld ⊢;refine pure_ (i:=0) (N:=some 40) (v:= ?_) (a':= ?_) #[true,false,false,false,false,false,false,false,false,false,false,false,false,false,false,false,false,false] rfl rfl (any_of HT_.out (by kernel_rfl)) (fun _ _ _ h=>h) (Or.inl ⟨by rfl,?_⟩) ?_ ?_
   rotate_left
   ·intro w'
    go_simp
    with_reducible rfl
   rotate_left
   ·simp only[Act.put,List.setIfInBounds_toArray,List.set_cons_zero,List.set_cons_succ,i64_w,i32_w]
    rfl
   refine pure_ (i:=1) (N:=some 41) (v:= ?_) (a':= ?_) #[true,true,false,false,false,false,false,false,false,false,false,false,false,false,false,false,false,false] rfl rfl (any_of HT_.out (by kernel_rfl)) (fun _ _ _ h=>h) (Or.inl ⟨by rfl,?_⟩) ?_ ?_
   rotate_left
   ·intro w'
    go_simp
    with_reducible rfl
   rotate_left
   ·simp only[Act.put,List.setIfInBounds_toArray,List.set_cons_zero,List.set_cons_succ,i64_w,i32_w]
    rfl
   refine pure_ (i:=2) (N:=some 42) (v:= ?_) (a':= ?_) #[true,true,true,false,false,false,false,false,false,false,false,false,false,false,false,false,false,false] rfl rfl (any_of HT_.out (by kernel_rfl)) (fun _ _ _ h=>h) (Or.inl ⟨by rfl,?_⟩) ?_ ?_
   rotate_left
   ·intro w'
    go_simp
    with_reducible rfl
   rotate_left
   ·simp only[Act.put,List.setIfInBounds_toArray,List.set_cons_zero,List.set_cons_succ,i64_w,i32_w]
    rfl
   refine pure_ (i:=3) (N:=some 43) (v:= ?_) (a':= ?_) #[true,true,true,true,false,false,false,false,false,false,false,false,false,false,false,false,false,false] rfl rfl (any_of HT_.out (by kernel_rfl)) (fun _ _ _ h=>h) (Or.inl ⟨by rfl,?_⟩) ?_ ?_
   rotate_left
   ·intro w'
    go_simp
    with_reducible rfl
   rotate_left
   ·simp only[Act.put,List.setIfInBounds_toArray,List.set_cons_zero,List.set_cons_succ,i64_w,i32_w]
    rfl
   refine pure_ (i:=4) (N:=some 44) (v:= ?_) (a':= ?_) #[true,true,true,true,true,false,false,false,false,false,false,false,false,false,false,false,false,false] rfl rfl (any_of HT_.out (by kernel_rfl)) (fun _ _ _ h=>h) (Or.inl ⟨by rfl,?_⟩) ?_ ?_
   rotate_left
   ·intro w'
    go_simp
    with_reducible rfl
   rotate_left
   ·simp only[Act.put,List.setIfInBounds_toArray,List.set_cons_zero,List.set_cons_succ,i64_w,i32_w]
    rfl
   refine pure_ (i:=6) (N:=some 46) (v:= ?_) (a':= ?_) #[true,true,true,true,true,false,true,false,false,false,false,false,false,false,false,false,false,false] rfl rfl (any_of HT_.out (by kernel_rfl)) (fun _ _ _ h=>h) (Or.inl ⟨by rfl,?_⟩) ?_ ?_
   rotate_left
   ·intro w'
    go_simp
    with_reducible rfl
   rotate_left
   ·simp only[Act.put,List.setIfInBounds_toArray,List.set_cons_zero,List.set_cons_succ,i64_w,i32_w]
    rfl
   refine pure_ (i:=7) (N:=some 47) (v:= ?_) (a':= ?_) #[true,true,true,true,true,false,true,true,false,false,false,false,false,false,false,false,false,false] rfl rfl (any_of HT_.out (by kernel_rfl)) (fun _ _ _ h=>h) (Or.inl ⟨by rfl,?_⟩) ?_ ?_
   rotate_left
   ·intro w'
    go_simp
    with_reducible rfl
   rotate_left
   ·simp only[Act.put,List.setIfInBounds_toArray,List.set_cons_zero,List.set_cons_succ,i64_w,i32_w]
    rfl
   refine pure_ (i:=8) (N:=some 48) (v:= ?_) (a':= ?_) #[true,true,true,true,true,false,true,true,true,false,false,false,false,false,false,false,false,false] rfl rfl (any_of HT_.out (by kernel_rfl)) (fun _ _ _ h=>h) (Or.inl ⟨by rfl,?_⟩) ?_ ?_
   rotate_left
   ·intro w'
    go_simp
    with_reducible rfl
   rotate_left
   ·simp only[Act.put,List.setIfInBounds_toArray,List.set_cons_zero,List.set_cons_succ,i64_w,i32_w]
    rfl
   refine pure_ (i:=9) (N:=some 49) (v:= ?_) (a':= ?_) #[true,true,true,true,true,false,true,true,true,true,false,false,false,false,false,false,false,false] rfl rfl (any_of HT_.out (by kernel_rfl)) (fun _ _ _ h=>h) (Or.inl ⟨by rfl,?_⟩) ?_ ?_
   rotate_left
   ·intro w'
    go_simp
    with_reducible rfl
   rotate_left
   ·simp only[Act.put,List.setIfInBounds_toArray,List.set_cons_zero,List.set_cons_succ,i64_w,i32_w]
    rfl
   refine pure_ (i:=10) (N:=some 50) (v:= ?_) (a':= ?_) #[true,true,true,true,true,false,true,true,true,true,true,false,false,false,false,false,false,false] rfl rfl (any_of HT_.out (by kernel_rfl)) (fun _ _ _ h=>h) (Or.inl ⟨by rfl,?_⟩) ?_ ?_
   rotate_left
   ·intro w'
    go_simp
    with_reducible rfl
   rotate_left
   ·simp only[Act.put,List.setIfInBounds_toArray,List.set_cons_zero,List.set_cons_succ,i64_w,i32_w]
    rfl
   refine pure_ (i:=14) (N:=some 54) (v:= ?_) (a':= ?_) #[true,true,true,true,true,false,true,true,true,true,true,false,false,false,true,false,false,false] rfl rfl (any_of HT_.out (by kernel_rfl)) (fun _ _ _ h=>h) (Or.inl ⟨by rfl,?_⟩) ?_ ?_
   rotate_left
   ·intro w'
    go_simp
    with_reducible rfl
   rotate_left
   ·simp only[Act.put,List.setIfInBounds_toArray,List.set_cons_zero,List.set_cons_succ,i64_w,i32_w]
    rfl
   refine take_ (i:=5) (N:=some 45) (v:= ?_) (a':= ?_) #[true,true,true,true,true,true,true,true,true,true,true,false,false,false,true,false,false,false] rfl rfl (take_ofW HT_.out HW_.out (by kernel_rfl)) (fun _ _ _ h=>h) (Or.inl ⟨by rfl,?_⟩) hHeld ?_ ?_
   rotate_left
   ·rintro w' ⟨s0,s1,s2,s3,s4⟩
    go_simp
    with_reducible rfl
   rotate_left
   ·simp only[Act.put,List.setIfInBounds_toArray,List.set_cons_zero,List.set_cons_succ,i64_w,i32_w]
    rfl
   refine take_ (i:=11) (N:=some 51) (v:= ?_) (a':= ?_) #[true,true,true,true,true,true,true,true,true,true,true,true,false,false,true,false,false,false] rfl rfl (take_ofW HT_.out HW_.out (by kernel_rfl)) (fun _ _ _ h=>h) (Or.inl ⟨by rfl,?_⟩) hHeld ?_ ?_
   rotate_left
   ·rintro w' ⟨s0,s1,s2,s3,s4⟩
    go_simp
    with_reducible rfl
   rotate_left
   ·simp only[Act.put,List.setIfInBounds_toArray,List.set_cons_zero,List.set_cons_succ,i64_w,i32_w]
    rfl
   refine pure_ (i:=12) (N:=some 52) (v:= ?_) (a':= ?_) #[true,true,true,true,true,true,true,true,true,true,true,true,true,false,true,false,false,false] rfl rfl (any_of HT_.out (by kernel_rfl)) (fun _ _ _ h=>h) (Or.inl ⟨by rfl,?_⟩) ?_ ?_
   rotate_left
   ·intro w'
    go_simp
    with_reducible rfl
   rotate_left
   ·simp only[Act.put,List.setIfInBounds_toArray,List.set_cons_zero,List.set_cons_succ,i64_w,i32_w]
    rfl
   refine take_ (i:=13) (N:=some 53) (v:= ?_) (a':= ?_) #[true,true,true,true,true,true,true,true,true,true,true,true,true,true,true,false,false,false] rfl rfl (take_ofW HT_.out HW_.out (by kernel_rfl)) (fun _ _ _ h=>h) (Or.inl ⟨by rfl,?_⟩) hHeld ?_ ?_
   rotate_left
   ·rintro w' ⟨s0,s1,s2,s3,s4⟩
    go_simp
    with_reducible rfl
   rotate_left
   ·simp only[Act.put,List.setIfInBounds_toArray,List.set_cons_zero,List.set_cons_succ,i64_w,i32_w]
    rfl
   refine pure_ (i:=15) (N:=some 55) (v:= ?_) (a':= ?_) #[true,true,true,true,true,true,true,true,true,true,true,true,true,true,true,true,false,false] rfl rfl (any_of HT_.out (by kernel_rfl)) (fun _ _ _ h=>h) (Or.inl ⟨by rfl,?_⟩) ?_ ?_
   rotate_left
   ·intro w'
    go_simp
    with_reducible rfl
   rotate_left
   ·simp only[Act.put,List.setIfInBounds_toArray,List.set_cons_zero,List.set_cons_succ,i64_w,i32_w]
    rfl
   refine pure_ (i:=16) (N:=some 56) (v:= ?_) (a':= ?_) #[true,true,true,true,true,true,true,true,true,true,true,true,true,true,true,true,true,false] rfl rfl (any_of HT_.out (by kernel_rfl)) (fun _ _ _ h=>h) (Or.inl ⟨by rfl,?_⟩) ?_ ?_
   rotate_left
   ·intro w'
    go_simp
    with_reducible rfl
   rotate_left
   ·simp only[Act.put,List.setIfInBounds_toArray,List.set_cons_zero,List.set_cons_succ,i64_w,i32_w]
    rfl
   refine last_ (i:=17) (N:=none) #[true,true,true,true,true,true,true,true,true,true,true,true,true,true,true,true,true,true] rfl rfl (one_of HT_.out (by kernel_rfl)) (by decide) (fun K hK=> ?_);refine skip_ (w1:= ?_) (by rfl) rfl ?_ ?_
   rotate_left
   ·go_simp
    rfl
   refine hK.out _ _ ?_;clear hK K;refine done_ (done_of HT_.out (by kernel_rfl)) ?_;try go_wp2
   go_roundg k1
   case measure=>have:=HK1.out;omega
   case rel=>exact⟨(y826),(wrap64 (Zn+1)),(by first|rfl|(simp;done)|(simp[*];done)),H',⟨by have:=HK1.out;omega⟩,⟨by(with_reducible repeat(first|apply Yr|apply Yq|apply Yp));exact HQ21.out⟩,⟨by repeat(first|(with_reducible first|exact HB.out|apply Ye|apply Yd|apply Yg|refine Yh ?_ GB18.out)|exact HB.out)⟩⟩
end P
namespace P
attribute [local go_sem] max2_int min2_int max_two min_two max_three min_three max_four min_four
def ebbtideref09_Best.l0:Nat→Int→Int→List Int→Int→Bool→List (S74)→Option (List Int)
 |0,_,_,_,_,_,_=>none
 |k+1,x1,x2,x7,x929000,x929001,x929002=>(ebbtideref07_Steps.f k x929000 x929001 x929002 x7).bind fun t932=>((ebbtideref08_Way.f x929000 x929001 x929002 x1 x2 t932).bind fun bt935=>(if bt935.2=true then((ebbtideref08_Bottle.f k x929000 x929001 x929002 x7 bt935.1).bind fun t939=>((ebbtideref07_Pushed.f k x7 bt935.1 t939).bind fun t940=>(ebbtideref09_Best.l0 k x1 x2 t940 x929000 x929001 x929002))) else(some x7)))
def ebbtideref09_Best.f (k:Nat) (Zc:Int) (Zb:Bool) (Za:List (S74)) (a1:Int) (a2:Int):Option (List Int):=if 0≤(Za.length:Int) then(if ((Za.length:Int):Int).toNat≤35184372088832 then(ebbtideref09_Best.l0 k a1 a2 (List.replicate ((Za.length:Int):Int).toNat 0) Zc Zb Za) else(none)) else(none)
def ebbtideref09_Best.T2:Bool × List (List Nat × List Nat):=(true,[([],[]),([],[]),([],[]),([],[]),([],[]),([3,4],[3,4]),([0,1,2,5,5],[0,1,2,5]),([6],[6]),([7],[7]),([7],[7]),([8,6,0,1,2,3,4,5,6,7,8],[8]),([9,10,0,1,2,3,4,5,6,7,8,9,10],[9])])
def ebbtideref09_Best.B2:List Nat:=[0,0,0,0,0,24,63,127,255,255,511,2047]
theorem ebbtideref09_Best.tab2:rtab .any (opsOf Try.f87 2)=ebbtideref09_Best.T2:=by kernel_rfl
theorem ebbtideref09_Best.bits2:waitsOk ebbtideref09_Best.T2.2 ebbtideref09_Best.B2=true:=by kernel_rfl
set_option maxHeartbeats 8000000 in
set_option maxRecDepth 100000 in
theorem ebbtideref09_Best.calls (k:Nat) (Zc:Int) (Zb:Bool) (Ze:Option Addr) (Zd:Nat) (Za:List (S74)) (a1:Int) (a2:Int) (r:List Int) (w:World) (Zr:Kd.C k74 w Ze Za.length Za) (Zs:Za.length≤Zd) (h:ebbtideref09_Best.f k Zc Zb Za a1 a2=some r):
  Calls Try.prog 87 #[.agg #[.int .i64 Zc, .bool Zb, .slice Ze Za.length Zd], .int .i64 a1, .int .i64 a2] w fun e w'=> ∃ v0_:Value,e= .returned (v0_)∧Kd.R (Kd.int .i64) 3 w' w.heap.size (fun _=>True) v0_ r∧Below w.heap.size w w':=by
 have hu24:=Try.underlying24;have Zl:=Ya Zr;have Zv:=Ya Zs;clear Zr Zs;have HB:=Ya (Yo w.heap.size w);have H:(if 0≤(Za.length:Int) then(if ((Za.length:Int):Int).toNat≤35184372088832 then(ebbtideref09_Best.l0 k a1 a2 (List.replicate ((Za.length:Int):Int).toNat 0) Zc Zb Za) else(none)) else(none))=some r:=h;clear h;by_cases c4:0≤(Za.length:Int)
 rotate_left
 ·rw[Yy c4] at H
  exact absurd H (by simp)
 rw[Yx c4] at H;have c4b0:=eq_true c4;have c4b1:decide (0≤(Za.length:Int))=true:=Yv c4;clear c4;by_cases c5:((Za.length:Int):Int).toNat≤35184372088832
 rotate_left
 ·rw[Yy c5] at H
  exact absurd H (by simp)
 rw[Yx c5] at H;have c5b0:=eq_true c5;have c5b1:decide (((Za.length:Int):Int).toNat≤35184372088832)=true:=Yv c5;clear c5;obtain⟨y929,hy929⟩: ∃ y_:List Int,y_=(List.replicate ((Za.length:Int):Int).toNat 0):=⟨_,rfl⟩;replace H:(ebbtideref09_Best.l0 k a1 a2 y929 Zc Zb Za)=some r:=by first|(rw[hy929];with_reducible exact H)|(have H2_:=(Option.bind_some _ _).symm.trans H;rw[hy929];with_reducible exact H2_)|(have H2_:=(Option.bind_some _ _).symm.trans H;with_reducible exact H2_)|with_reducible exact H|(rw[hy929];exact H)|exact H
 have Ny929:=Ya hy929;clear hy929;have H':=Ya H;clear H;go_enter Try.func87,Try.ntmps87;go_wp2_with (first|((with_reducible refine gate_dst (N:=3) rfl ?_);refine Yz ?hg (N:=3) ?hd (cs:= #[.int .i64 Zc, .bool Zb, .slice Ze Za.length Zd]) (t:=24) ?hr ?_;(case hd=>rfl);(case hg=>rfl);(case hr=>first|(go_simp;done)|(go_simp;rfl));intro Ju hg w6 Zf hb;have n0_:=Ya (Yk (by repeat(first|(with_reducible first|exact HB.out|apply Ye|apply Yd|apply Yg)|exact HB.out)) hb);have n1_:=Ya (Zf);have n2_:=Ya ((by rw[hg];exact(Yi (by repeat(first|(with_reducible first|exact HB.out|apply Ye|apply Yd|apply Yg)|exact HB.out))):w.heap.size≤Ju));have n3_:=Ya ((by rw[hg];exact(Yi (by repeat(first|(with_reducible first|exact HB.out|apply Ye|apply Yd|apply Yg)|exact HB.out))):w.heap.size≤Ju));clear HB;have HB:=n0_;have Xl:=n1_;have GW928:=n2_;have GE928:=n3_;clear n0_ n1_ n2_ n3_;clear hb Zf hg;have hcz7_0:w6.cell? ⟨Ju,0,none⟩=some (.int .i64 Zc):=(Yc Xl.out 0).trans rfl;have hcz7_1:w6.cell? ⟨Ju,1,none⟩=some (.bool Zb):=(Yc Xl.out 1).trans rfl;have hcz7_2:w6.cell? ⟨Ju,2,none⟩=some (.slice Ze Za.length Zd):=(Yc Xl.out 2).trans rfl;have hfz7_0:=Yf Xl.out 0;have hfz7_1:=Yf Xl.out 1;have hfz7_2:=Yf Xl.out 2)|((with_reducible refine gate_dst (N:=13) rfl ?_);refine Kd.R_make (Kd.int .i64) _ 3 rfl (N:=13) rfl 25 _ _ rfl (Za.length:Int) rfl rfl Try.underlying25 (.int .i64 0) 8 info3 rfl (by decide) (by omega) 0 (ok:=fun _=>True) (okp:=fun _=>True) rfl (fun _ hk=>hk) trivial (Yu (by first|(with_reducible assumption)|assumption)) (Nat.le_trans (Nat.mul_le_mul_right _ (Yu (by first|(with_reducible assumption)|assumption):(Za.length:Int).toNat≤35184372088832)) (by omega)) (Yo _ _) (Nat.le_refl _) ?_;intro v930 w8 ho9 hb hg_ hnew_;clear hg_ hnew_;(first|rw[← Ny929.out] at ho9|(simp only[Int.reduceToNat] at ho9;rw[← Ny929.out] at ho9));have n0_:=Ya (Kd.R_lower ho9 (Yi (by repeat(first|(with_reducible first|exact HB.out|apply Ye|apply Yd|apply Yg|refine Yh ?_ GE928.out)|exact HB.out))));have n1_:=Ya (Yn (g:=Ju) (o:= .cells #[.int .i64 Zc, .bool Zb, .slice Ze Za.length Zd] 24 (0,0)) (by(with_reducible repeat(first|refine Yl ?_ _|refine Ym ?_|refine Yj ?_ _));exact Xl.out) hb);have n2_:=Ya (Yk (by repeat(first|(with_reducible first|exact HB.out|apply Ye|apply Yd|apply Yg|refine Yh ?_ GE928.out)|exact HB.out)) hb);clear Xl;clear HB;have HO931:=n0_;have Xl:=n1_;have HB:=n2_;clear n0_ n1_ n2_;clear hb ho9));go_loopg [7] k (fun kq v7 w'=> ∃ (Wi:List Int),Aside0 (ebbtideref09_Best.l0 kq a1 a2 Wi Zc Zb Za=some r)∧Aside0 (kq≤k)∧Aside0 (Kd.R (Kd.int .i64) 3 w' w.heap.size (fun _=>True) v7 Wi)∧Aside0 (w'.heap[Ju]? =some (.cells #[.int .i64 Zc, .bool Zb,(.slice Ze Za.length Zd)] 24 (0,0)))∧Aside0 (Below w.heap.size w w'))
 case atStart=>exact⟨(y929),H',⟨Nat.le_refl _⟩,⟨by(with_reducible repeat(first|apply Yr|apply Yq|apply Yp));exact HO931.out⟩,⟨by(with_reducible repeat(first|refine Yl ?_ _|refine Ym ?_|refine Yj ?_ _));exact Xl.out⟩,⟨by repeat(first|(with_reducible first|exact HB.out|apply Ye|apply Yd|apply Yg|refine Yh ?_ GE928.out)|exact HB.out)⟩⟩
 case round=>
  clear H';try clear p2
  try clear c4
  try clear c4b0
  try clear c4b1
  try clear c5
  try clear c5b0
  try clear c5b1
  try clear c8
  try clear hcz7_0
  try clear hcz7_1
  try clear hcz7_2
  try clear hfz7_0
  try clear hfz7_1
  try clear hfz7_2
  obtain⟨Wi,HA,HK1,HO_7,Xl,HB⟩:=hrel;cases gk with
  |zero=>exact absurd HA.out (by simp[ebbtideref09_Best.l0])
  |succ k1=>
   have H:=HA.out;clear HA;simp only[ebbtideref09_Best.l0] at H;replace H:=Option.bind_eq_some_iff.mp H;obtain⟨t932,A100,H⟩:=H;replace H:((ebbtideref08_Way.f Zc Zb Za a1 a2 t932).bind fun bt935=>(if bt935.2=true then((ebbtideref08_Bottle.f k1 Zc Zb Za Wi bt935.1).bind fun t939=>((ebbtideref07_Pushed.f k1 Wi bt935.1 t939).bind fun t940=>(ebbtideref09_Best.l0 k1 a1 a2 t940 Zc Zb Za))) else(some Wi)))=some r:=H;have A10:=Ya A100;clear A100;replace H:=Option.bind_eq_some_iff.mp H;obtain⟨⟨t935,t938⟩,A110,H⟩:=H;replace H:(if t938=true then((ebbtideref08_Bottle.f k1 Zc Zb Za Wi t935).bind fun t939=>((ebbtideref07_Pushed.f k1 Wi t935 t939).bind fun t940=>(ebbtideref09_Best.l0 k1 a1 a2 t940 Zc Zb Za))) else(some Wi))=some r:=H;have A11:=Ya A110;clear A110;by_cases c12:t938=true
   rotate_left
   ·replace c12:=Bool.eq_false_iff.mpr c12
    subst c12;have H1:(some Wi)=some r:=by rw[Yy (show ¬ (false=true) by decide)] at H;exact H
    clear H;have H:=H1;clear H1;obtain rfl:=Option.some.inj H;try go_wp2
    have n0_:=Ya (Yp HO_7.out);have n1_:=Ya (Ym Xl.out);have n2_:=Ya (Yg HB.out);clear HO_7;clear Xl;clear HB;have HO_7:=n0_;have Xl:=n1_;have HB:=n2_;clear n0_ n1_ n2_;obtain⟨Ao25,co25,eo25⟩:=Kd.R_slice HO_7.out
    (first|subst eo25|(injection eo25 with f1_ f2_ f3_;have f4_:=f1_.symm;have f5_:=f3_.symm;clear f1_ f2_ f3_;subst f4_;subst f5_))
    refine start_ (n:=12) (S:=fun w'=>w'.cell? ⟨Ju,0,none⟩=some (.int .i64 Zc)∧w'.cell? ⟨Ju,1,none⟩=some (.bool Zb)∧w'.cell? ⟨Ju,2,none⟩=some (.slice Ze Za.length Zd)) (ds:=[]) #[false,false,false,false,false,false,false,false,false,false,false,false] (by kernel_rfl) rfl rfl ⟨(Yc Xl.out 0).trans rfl,(Yc Xl.out 1).trans rfl,(Yc Xl.out 2).trans rfl⟩ (fun hHeld=> ?_);refine with_tabW ebbtideref09_Best.tab2 ebbtideref09_Best.bits2 (fun HT_ HW_=> ?_);generalize wr.drew=w24 at HO_7 Xl HB hHeld ⊢;refine pure_ (i:=1) (N:=some 16) (v:= ?_) (a':= ?_) #[false,true,false,false,false,false,false,false,false,false,false,false] rfl rfl (any_of HT_.out (by kernel_rfl)) (fun _ _ _ h=>h) (Or.inl ⟨by rfl,?_⟩) ?_ ?_
    rotate_left
    ·intro w'
     go_simp
     with_reducible rfl
    rotate_left
    ·simp only[Act.put,List.setIfInBounds_toArray,List.set_cons_zero,List.set_cons_succ,i64_w,i32_w]
     rfl
    refine pure_ (i:=2) (N:=some 17) (v:= ?_) (a':= ?_) #[false,true,true,false,false,false,false,false,false,false,false,false] rfl rfl (any_of HT_.out (by kernel_rfl)) (fun _ _ _ h=>h) (Or.inl ⟨by rfl,?_⟩) ?_ ?_
    rotate_left
    ·intro w'
     go_simp
     with_reducible rfl
    rotate_left
    ·simp only[Act.put,List.setIfInBounds_toArray,List.set_cons_zero,List.set_cons_succ,i64_w,i32_w]
     rfl
    refine pure_ (i:=4) (N:=some 19) (v:= ?_) (a':= ?_) #[false,true,true,false,true,false,false,false,false,false,false,false] rfl rfl (any_of HT_.out (by kernel_rfl)) (fun _ _ _ h=>h) (Or.inl ⟨by rfl,?_⟩) ?_ ?_
    rotate_left
    ·intro w'
     go_simp
     with_reducible rfl
    rotate_left
    ·simp only[Act.put,List.setIfInBounds_toArray,List.set_cons_zero,List.set_cons_succ,i64_w,i32_w]
     rfl
    refine take_ (i:=0) (N:=some 15) (v:= ?_) (a':= ?_) #[true,true,true,false,true,false,false,false,false,false,false,false] rfl rfl (take_ofW HT_.out HW_.out (by kernel_rfl)) (fun _ _ _ h=>h) (Or.inl ⟨by rfl,?_⟩) hHeld ?_ ?_
    rotate_left
    ·rintro w' ⟨s0,s1,s2⟩
     go_simp
     with_reducible rfl
    rotate_left
    ·simp only[Act.put,List.setIfInBounds_toArray,List.set_cons_zero,List.set_cons_succ,i64_w,i32_w]
     rfl
    refine take_ (i:=3) (N:=some 18) (v:= ?_) (a':= ?_) #[true,true,true,true,true,false,false,false,false,false,false,false] rfl rfl (take_ofW HT_.out HW_.out (by kernel_rfl)) (fun _ _ _ h=>h) (Or.inl ⟨by rfl,?_⟩) hHeld ?_ ?_
    rotate_left
    ·rintro w' ⟨s0,s1,s2⟩
     go_simp
     with_reducible rfl
    rotate_left
    ·simp only[Act.put,List.setIfInBounds_toArray,List.set_cons_zero,List.set_cons_succ,i64_w,i32_w]
     rfl
    refine one_ (i:=5) (N:=some 20) #[true,true,true,true,true,true,false,false,false,false,false,false] rfl rfl (one_of HT_.out (by kernel_rfl)) (by decide) (fun K hK=> ?_);refine goes_ Try.func43 (by kernel_rfl) rfl #[.agg #[.int .i64 Zc, .bool Zb, .slice Ze Za.length Zd], .slice Ao25 Wi.length co25] (by rfl) rfl rfl (by(try simp only[List.map_toArray,List.map_cons,List.map_nil]);first|done|rfl|(simp only[List.length_drop,List.length_take];rfl)) ?_
    with_reducible refine(ebbtideref07_Steps.calls k1 Zc Zb _ _ Za _ _ Wi t932 _ ?side1 ?side2 ?side3 ?side4 A10.out).mono ?_
    (case side1=>repeat(first|exact(Yt Zl.out HB.out)|(with_reducible refine Kd.C_alloc ?_ _)|(with_reducible refine Kd.C_drewN ?_ _)|(with_reducible refine Kd.C_drew ?_)))
    (case side2=>exact Zv.out)
    (case side3=>repeat(first|exact(Kd.R_reads' HO_7.out).2.2|(with_reducible refine Kd.C_alloc ?_ _)|(with_reducible refine Kd.C_drewN ?_ _)|(with_reducible refine Kd.C_drew ?_)))
    (case side4=>exact(Kd.R_reads' HO_7.out).2.1)
    rintro e w26 ⟨v933,rfl,ho0,hb⟩;refine⟨_,rfl,?_⟩;have n0_:=Ya (Ys (by(with_reducible repeat(first|apply Yr|apply Yq|apply Yp));exact HO_7.out) hb);have n1_:=Ya (Kd.R_lower ho0 (Yi (by repeat(first|(with_reducible first|exact HB.out|apply Ye|apply Yd|apply Yg|refine Yh ?_ GE928.out)|exact HB.out))));have n2_:=Ya (Yn (g:=Ju) (o:= .cells #[.int .i64 Zc, .bool Zb, .slice Ze Za.length Zd] 24 (0,0)) (by(with_reducible repeat(first|refine Yl ?_ _|refine Ym ?_|refine Yj ?_ _));exact Xl.out) hb);have n3_:=Ya (Yk (by repeat(first|(with_reducible first|exact HB.out|apply Ye|apply Yd|apply Yg|refine Yh ?_ GE928.out)|exact HB.out)) hb);clear HO_7;clear Xl;clear HB;have HO_7:=n0_;have Jy:=n1_;have Xl:=n2_;have HB:=n3_;clear n0_ n1_ n2_ n3_
    (try clear hb)
    (try clear hb2)
    (try clear hk)
    (try clear hi)
    (try clear ho0)
    obtain⟨Ao27,co27,eo27⟩:=Kd.R_slice Jy.out
    (first|subst eo27|(injection eo27 with f1_ f2_ f3_;have f4_:=f1_.symm;have f5_:=f3_.symm;clear f1_ f2_ f3_;subst f4_;subst f5_))
    refine hK.out _ _ ⟨(Yc Xl.out 0).trans rfl,(Yc Xl.out 1).trans rfl,(Yc Xl.out 2).trans rfl⟩ (fun hHeld=> ?_);clear hK K;refine norm_ (a':= ?_) ?_ ?_
    rotate_left
    ·show Act.put _ (some 20) _=_
     simp only[Act.put,List.setIfInBounds_toArray,List.set_cons_zero,List.set_cons_succ,i64_w,i32_w];rfl
    refine one_ (i:=6) (N:=some 21) #[true,true,true,true,true,true,true,false,false,false,false,false] rfl rfl (one_of HT_.out (by kernel_rfl)) (by decide) (fun K hK=> ?_);refine goes_ Try.func109 (by kernel_rfl) rfl #[.agg #[.int .i64 Zc, .bool Zb, .slice Ze Za.length Zd], .int .i64 a1, .int .i64 a2, .slice Ao27 t932.length co27] (by rfl) rfl rfl (by(try simp only[List.map_toArray,List.map_cons,List.map_nil]);first|done|rfl|(simp only[List.length_drop,List.length_take];rfl)) ?_
    with_reducible refine(ebbtideref08_Way.calls Zc Zb _ _ Za a1 a2 _ _ t932 t935 false _ ?side1 ?side2 ?side3 ?side4 A11.out).mono ?_
    (case side1=>repeat(first|exact(Yt Zl.out HB.out)|(with_reducible refine Kd.C_alloc ?_ _)|(with_reducible refine Kd.C_drewN ?_ _)|(with_reducible refine Kd.C_drew ?_)))
    (case side2=>exact Zv.out)
    (case side3=>repeat(first|exact(Kd.R_reads' Jy.out).2.2|(with_reducible refine Kd.C_alloc ?_ _)|(with_reducible refine Kd.C_drewN ?_ _)|(with_reducible refine Kd.C_drew ?_)))
    (case side4=>exact(Kd.R_reads' Jy.out).2.1)
    rintro e w28 ⟨v936,rfl,ho0,hb⟩;refine⟨_,rfl,?_⟩;have n0_:=Ya (Ys (by(with_reducible repeat(first|apply Yr|apply Yq|apply Yp));exact HO_7.out) hb);have n1_:=Ya (Kd.R_elder' (by(with_reducible repeat(first|apply Yr|apply Yq|apply Yp));exact Jy.out) (Kd.R_base ho0) hb);have n2_:=Ya (Kd.R_lower (Kd.R_new' ho0 (Kd.R_lt (by(with_reducible repeat(first|apply Yr|apply Yq|apply Yp));exact Jy.out))) (Yi (by repeat(first|(with_reducible first|exact HB.out|apply Ye|apply Yd|apply Yg|refine Yh ?_ GE928.out)|exact HB.out))));have n3_:=Ya (Yn (g:=Ju) (o:= .cells #[.int .i64 Zc, .bool Zb, .slice Ze Za.length Zd] 24 (0,0)) (by(with_reducible repeat(first|refine Yl ?_ _|refine Ym ?_|refine Yj ?_ _));exact Xl.out) hb);have n4_:=Ya (Yk (by repeat(first|(with_reducible first|exact HB.out|apply Ye|apply Yd|apply Yg|refine Yh ?_ GE928.out)|exact HB.out)) hb);clear HO_7;clear Jy;clear Xl;clear HB;have HO_7:=n0_;have Jy:=n1_;have HO937:=n2_;have Xl:=n3_;have HB:=n4_;clear n0_ n1_ n2_ n3_ n4_
    (try clear hb)
    (try clear hb2)
    (try clear hk)
    (try clear hi)
    (try clear ho0)
    refine hK.out _ _ ⟨(Yc Xl.out 0).trans rfl,(Yc Xl.out 1).trans rfl,(Yc Xl.out 2).trans rfl⟩ (fun hHeld=> ?_);clear hK K;refine norm_ (a':= ?_) ?_ ?_
    rotate_left
    ·show Act.put _ (some 21) _=_
     simp only[Act.put,List.setIfInBounds_toArray,List.set_cons_zero,List.set_cons_succ,i64_w,i32_w];rfl
    refine pure_ (i:=7) (N:=some 14) (v:= ?_) (a':= ?_) #[true,true,true,true,true,true,true,true,false,false,false,false] rfl rfl (any_of HT_.out (by kernel_rfl)) (fun _ _ _ h=>h) (Or.inl ⟨by rfl,?_⟩) ?_ ?_
    rotate_left
    ·intro w'
     go_simp
     with_reducible rfl
    rotate_left
    ·simp only[Act.put,List.setIfInBounds_toArray,List.set_cons_zero,List.set_cons_succ,i64_w,i32_w]
     rfl
    refine pure_ (i:=8) (N:=some 22) (v:= ?_) (a':= ?_) #[true,true,true,true,true,true,true,true,true,false,false,false] rfl rfl (any_of HT_.out (by kernel_rfl)) (fun _ _ _ h=>h) (Or.inl ⟨by rfl,?_⟩) ?_ ?_
    rotate_left
    ·intro w'
     go_simp
     with_reducible rfl
    rotate_left
    ·simp only[Act.put,List.setIfInBounds_toArray,List.set_cons_zero,List.set_cons_succ,i64_w,i32_w]
     rfl
    refine pure_ (i:=9) (N:=some 23) (v:= ?_) (a':= ?_) #[true,true,true,true,true,true,true,true,true,true,false,false] rfl rfl (any_of HT_.out (by kernel_rfl)) (fun _ _ _ h=>h) (Or.inl ⟨by rfl,?_⟩) ?_ ?_
    rotate_left
    ·intro w'
     go_simp
     with_reducible rfl
    rotate_left
    ·simp only[Act.put,List.setIfInBounds_toArray,List.set_cons_zero,List.set_cons_succ,i64_w,i32_w]
     rfl
    refine pure_ (i:=10) (N:=some 8) (v:= ?_) (a':= ?_) #[true,true,true,true,true,true,true,true,true,true,true,false] rfl rfl (any_of HT_.out (by kernel_rfl)) (fun _ _ _ h=>h) (Or.inl ⟨by rfl,?_⟩) ?_ ?_
    rotate_left
    ·intro w'
     go_simp
     with_reducible rfl
    rotate_left
    ·simp only[Act.put,List.setIfInBounds_toArray,List.set_cons_zero,List.set_cons_succ,i64_w,i32_w]
     rfl
    refine pure_ (i:=11) (N:=some 9) (v:= ?_) (a':= ?_) #[true,true,true,true,true,true,true,true,true,true,true,true] rfl rfl (any_of HT_.out (by kernel_rfl)) (fun _ _ _ h=>h) (Or.inl ⟨by rfl,?_⟩) ?_ ?_
    rotate_left
    ·intro w'
     go_simp
     with_reducible rfl
    rotate_left
    ·simp only[Act.put,List.setIfInBounds_toArray,List.set_cons_zero,List.set_cons_succ,i64_w,i32_w]
     rfl
    refine done_ (done_of HT_.out (by kernel_rfl)) ?_;try go_wp2
    go_ret;exact⟨_,by first|rfl|(simp[errW_none,errW_some]<;>rfl)|(simp[*,errW_none,errW_some]<;>rfl),by(with_reducible repeat(first|apply Yr|apply Yq|apply Yp));exact HO_7.out,by repeat(first|(with_reducible first|exact HB.out|apply Ye|apply Yd|apply Yg|refine Yh ?_ GE928.out)|exact HB.out)⟩
   subst c12;have H1:((ebbtideref08_Bottle.f k1 Zc Zb Za Wi t935).bind fun t939=>((ebbtideref07_Pushed.f k1 Wi t935 t939).bind fun t940=>(ebbtideref09_Best.l0 k1 a1 a2 t940 Zc Zb Za)))=some r:=by first|(rw[Yx rfl] at H;exact H)|(rw[Yx trivial] at H;exact H)
   clear H;have H:=H1;clear H1;replace H:=Option.bind_eq_some_iff.mp H;obtain⟨t939,A130,H⟩:=H;replace H:((ebbtideref07_Pushed.f k1 Wi t935 t939).bind fun t940=>(ebbtideref09_Best.l0 k1 a1 a2 t940 Zc Zb Za))=some r:=H;have A13:=Ya A130;clear A130;replace H:=Option.bind_eq_some_iff.mp H;obtain⟨t940,A140,H⟩:=H;replace H:(ebbtideref09_Best.l0 k1 a1 a2 t940 Zc Zb Za)=some r:=H;have A14:=Ya A140;clear A140;have H':=Ya H;clear H;try go_wp2
   have n0_:=Ya (Yp HO_7.out);have n1_:=Ya (Ym Xl.out);have n2_:=Ya (Yg HB.out);clear HO_7;clear Xl;clear HB;have HO_7:=n0_;have Xl:=n1_;have HB:=n2_;clear n0_ n1_ n2_;obtain⟨Ao16,co16,eo16⟩:=Kd.R_slice HO_7.out
   (first|subst eo16|(injection eo16 with f1_ f2_ f3_;have f4_:=f1_.symm;have f5_:=f3_.symm;clear f1_ f2_ f3_;subst f4_;subst f5_))
   refine start_ (n:=12) (S:=fun w'=>w'.cell? ⟨Ju,0,none⟩=some (.int .i64 Zc)∧w'.cell? ⟨Ju,1,none⟩=some (.bool Zb)∧w'.cell? ⟨Ju,2,none⟩=some (.slice Ze Za.length Zd)) (ds:=[]) #[false,false,false,false,false,false,false,false,false,false,false,false] (by kernel_rfl) rfl rfl ⟨(Yc Xl.out 0).trans rfl,(Yc Xl.out 1).trans rfl,(Yc Xl.out 2).trans rfl⟩ (fun hHeld=> ?_);refine with_tabW ebbtideref09_Best.tab2 ebbtideref09_Best.bits2 (fun HT_ HW_=> ?_);generalize wr.drew=w15 at HO_7 Xl HB hHeld ⊢;refine pure_ (i:=1) (N:=some 16) (v:= ?_) (a':= ?_) #[false,true,false,false,false,false,false,false,false,false,false,false] rfl rfl (any_of HT_.out (by kernel_rfl)) (fun _ _ _ h=>h) (Or.inl ⟨by rfl,?_⟩) ?_ ?_
   rotate_left
   ·intro w'
    go_simp
    with_reducible rfl
   rotate_left
   ·simp only[Act.put,List.setIfInBounds_toArray,List.set_cons_zero,List.set_cons_succ,i64_w,i32_w]
    rfl
   refine pure_ (i:=2) (N:=some 17) (v:= ?_) (a':= ?_) #[false,true,true,false,false,false,false,false,false,false,false,false] rfl rfl (any_of HT_.out (by kernel_rfl)) (fun _ _ _ h=>h) (Or.inl ⟨by rfl,?_⟩) ?_ ?_
   rotate_left
   ·intro w'
    go_simp
    with_reducible rfl
   rotate_left
   ·simp only[Act.put,List.setIfInBounds_toArray,List.set_cons_zero,List.set_cons_succ,i64_w,i32_w]
    rfl
   refine pure_ (i:=4) (N:=some 19) (v:= ?_) (a':= ?_) #[false,true,true,false,true,false,false,false,false,false,false,false] rfl rfl (any_of HT_.out (by kernel_rfl)) (fun _ _ _ h=>h) (Or.inl ⟨by rfl,?_⟩) ?_ ?_
   rotate_left
   ·intro w'
    go_simp
    with_reducible rfl
   rotate_left
   ·simp only[Act.put,List.setIfInBounds_toArray,List.set_cons_zero,List.set_cons_succ,i64_w,i32_w]
    rfl
   refine take_ (i:=0) (N:=some 15) (v:= ?_) (a':= ?_) #[true,true,true,false,true,false,false,false,false,false,false,false] rfl rfl (take_ofW HT_.out HW_.out (by kernel_rfl)) (fun _ _ _ h=>h) (Or.inl ⟨by rfl,?_⟩) hHeld ?_ ?_
   rotate_left
   ·rintro w' ⟨s0,s1,s2⟩
    go_simp
    with_reducible rfl
   rotate_left
   ·simp only[Act.put,List.setIfInBounds_toArray,List.set_cons_zero,List.set_cons_succ,i64_w,i32_w]
    rfl
   refine take_ (i:=3) (N:=some 18) (v:= ?_) (a':= ?_) #[true,true,true,true,true,false,false,false,false,false,false,false] rfl rfl (take_ofW HT_.out HW_.out (by kernel_rfl)) (fun _ _ _ h=>h) (Or.inl ⟨by rfl,?_⟩) hHeld ?_ ?_
   rotate_left
   ·rintro w' ⟨s0,s1,s2⟩
    go_simp
    with_reducible rfl
   rotate_left
   ·simp only[Act.put,List.setIfInBounds_toArray,List.set_cons_zero,List.set_cons_succ,i64_w,i32_w]
    rfl
   refine one_ (i:=5) (N:=some 20) #[true,true,true,true,true,true,false,false,false,false,false,false] rfl rfl (one_of HT_.out (by kernel_rfl)) (by decide) (fun K hK=> ?_);refine goes_ Try.func43 (by kernel_rfl) rfl #[.agg #[.int .i64 Zc, .bool Zb, .slice Ze Za.length Zd], .slice Ao16 Wi.length co16] (by rfl) rfl rfl (by(try simp only[List.map_toArray,List.map_cons,List.map_nil]);first|done|rfl|(simp only[List.length_drop,List.length_take];rfl)) ?_
   with_reducible refine(ebbtideref07_Steps.calls k1 Zc Zb _ _ Za _ _ Wi t932 _ ?side1 ?side2 ?side3 ?side4 A10.out).mono ?_
   (case side1=>repeat(first|exact(Yt Zl.out HB.out)|(with_reducible refine Kd.C_alloc ?_ _)|(with_reducible refine Kd.C_drewN ?_ _)|(with_reducible refine Kd.C_drew ?_)))
   (case side2=>exact Zv.out)
   (case side3=>repeat(first|exact(Kd.R_reads' HO_7.out).2.2|(with_reducible refine Kd.C_alloc ?_ _)|(with_reducible refine Kd.C_drewN ?_ _)|(with_reducible refine Kd.C_drew ?_)))
   (case side4=>exact(Kd.R_reads' HO_7.out).2.1)
   rintro e w17 ⟨v933,rfl,ho0,hb⟩;refine⟨_,rfl,?_⟩;have n0_:=Ya (Ys (by(with_reducible repeat(first|apply Yr|apply Yq|apply Yp));exact HO_7.out) hb);have n1_:=Ya (Kd.R_lower ho0 (Yi (by repeat(first|(with_reducible first|exact HB.out|apply Ye|apply Yd|apply Yg|refine Yh ?_ GE928.out)|exact HB.out))));have n2_:=Ya (Yn (g:=Ju) (o:= .cells #[.int .i64 Zc, .bool Zb, .slice Ze Za.length Zd] 24 (0,0)) (by(with_reducible repeat(first|refine Yl ?_ _|refine Ym ?_|refine Yj ?_ _));exact Xl.out) hb);have n3_:=Ya (Yk (by repeat(first|(with_reducible first|exact HB.out|apply Ye|apply Yd|apply Yg|refine Yh ?_ GE928.out)|exact HB.out)) hb);clear HO_7;clear Xl;clear HB;have HO_7:=n0_;have Jy:=n1_;have Xl:=n2_;have HB:=n3_;clear n0_ n1_ n2_ n3_
   (try clear hb)
   (try clear hb2)
   (try clear hk)
   (try clear hi)
   (try clear ho0)
   obtain⟨Ao18,co18,eo18⟩:=Kd.R_slice Jy.out
   (first|subst eo18|(injection eo18 with f1_ f2_ f3_;have f4_:=f1_.symm;have f5_:=f3_.symm;clear f1_ f2_ f3_;subst f4_;subst f5_))
   refine hK.out _ _ ⟨(Yc Xl.out 0).trans rfl,(Yc Xl.out 1).trans rfl,(Yc Xl.out 2).trans rfl⟩ (fun hHeld=> ?_);clear hK K;refine norm_ (a':= ?_) ?_ ?_
   rotate_left
   ·show Act.put _ (some 20) _=_
    simp only[Act.put,List.setIfInBounds_toArray,List.set_cons_zero,List.set_cons_succ,i64_w,i32_w];rfl
   refine one_ (i:=6) (N:=some 21) #[true,true,true,true,true,true,true,false,false,false,false,false] rfl rfl (one_of HT_.out (by kernel_rfl)) (by decide) (fun K hK=> ?_);refine goes_ Try.func109 (by kernel_rfl) rfl #[.agg #[.int .i64 Zc, .bool Zb, .slice Ze Za.length Zd], .int .i64 a1, .int .i64 a2, .slice Ao18 t932.length co18] (by rfl) rfl rfl (by(try simp only[List.map_toArray,List.map_cons,List.map_nil]);first|done|rfl|(simp only[List.length_drop,List.length_take];rfl)) ?_
   with_reducible refine(ebbtideref08_Way.calls Zc Zb _ _ Za a1 a2 _ _ t932 t935 true _ ?side1 ?side2 ?side3 ?side4 A11.out).mono ?_
   (case side1=>repeat(first|exact(Yt Zl.out HB.out)|(with_reducible refine Kd.C_alloc ?_ _)|(with_reducible refine Kd.C_drewN ?_ _)|(with_reducible refine Kd.C_drew ?_)))
   (case side2=>exact Zv.out)
   (case side3=>repeat(first|exact(Kd.R_reads' Jy.out).2.2|(with_reducible refine Kd.C_alloc ?_ _)|(with_reducible refine Kd.C_drewN ?_ _)|(with_reducible refine Kd.C_drew ?_)))
   (case side4=>exact(Kd.R_reads' Jy.out).2.1)
   rintro e w19 ⟨v936,rfl,ho0,hb⟩;refine⟨_,rfl,?_⟩;have n0_:=Ya (Ys (by(with_reducible repeat(first|apply Yr|apply Yq|apply Yp));exact HO_7.out) hb);have n1_:=Ya (Kd.R_elder' (by(with_reducible repeat(first|apply Yr|apply Yq|apply Yp));exact Jy.out) (Kd.R_base ho0) hb);have n2_:=Ya (Kd.R_lower (Kd.R_new' ho0 (Kd.R_lt (by(with_reducible repeat(first|apply Yr|apply Yq|apply Yp));exact Jy.out))) (Yi (by repeat(first|(with_reducible first|exact HB.out|apply Ye|apply Yd|apply Yg|refine Yh ?_ GE928.out)|exact HB.out))));have n3_:=Ya (Yn (g:=Ju) (o:= .cells #[.int .i64 Zc, .bool Zb, .slice Ze Za.length Zd] 24 (0,0)) (by(with_reducible repeat(first|refine Yl ?_ _|refine Ym ?_|refine Yj ?_ _));exact Xl.out) hb);have n4_:=Ya (Yk (by repeat(first|(with_reducible first|exact HB.out|apply Ye|apply Yd|apply Yg|refine Yh ?_ GE928.out)|exact HB.out)) hb);clear HO_7;clear Jy;clear Xl;clear HB;have HO_7:=n0_;have Jy:=n1_;have HO937:=n2_;have Xl:=n3_;have HB:=n4_;clear n0_ n1_ n2_ n3_ n4_
   (try clear hb)
   (try clear hb2)
   (try clear hk)
   (try clear hi)
   (try clear ho0)
   refine hK.out _ _ ⟨(Yc Xl.out 0).trans rfl,(Yc Xl.out 1).trans rfl,(Yc Xl.out 2).trans rfl⟩ (fun hHeld=> ?_);clear hK K;refine norm_ (a':= ?_) ?_ ?_
   rotate_left
   ·show Act.put _ (some 21) _=_
    simp only[Act.put,List.setIfInBounds_toArray,List.set_cons_zero,List.set_cons_succ,i64_w,i32_w];rfl
   refine pure_ (i:=7) (N:=some 14) (v:= ?_) (a':= ?_) #[true,true,true,true,true,true,true,true,false,false,false,false] rfl rfl (any_of HT_.out (by kernel_rfl)) (fun _ _ _ h=>h) (Or.inl ⟨by rfl,?_⟩) ?_ ?_
   rotate_left
   ·intro w'
    go_simp
    with_reducible rfl
   rotate_left
   ·simp only[Act.put,List.setIfInBounds_toArray,List.set_cons_zero,List.set_cons_succ,i64_w,i32_w]
    rfl
   refine pure_ (i:=8) (N:=some 22) (v:= ?_) (a':= ?_) #[true,true,true,true,true,true,true,true,true,false,false,false] rfl rfl (any_of HT_.out (by kernel_rfl)) (fun _ _ _ h=>h) (Or.inl ⟨by rfl,?_⟩) ?_ ?_
   rotate_left
   ·intro w'
    go_simp
    with_reducible rfl
   rotate_left
   ·simp only[Act.put,List.setIfInBounds_toArray,List.set_cons_zero,List.set_cons_succ,i64_w,i32_w]
    rfl
   refine pure_ (i:=9) (N:=some 23) (v:= ?_) (a':= ?_) #[true,true,true,true,true,true,true,true,true,true,false,false] rfl rfl (any_of HT_.out (by kernel_rfl)) (fun _ _ _ h=>h) (Or.inl ⟨by rfl,?_⟩) ?_ ?_
   rotate_left
   ·intro w'
    go_simp
    with_reducible rfl
   rotate_left
   ·simp only[Act.put,List.setIfInBounds_toArray,List.set_cons_zero,List.set_cons_succ,i64_w,i32_w]
    rfl
   refine pure_ (i:=10) (N:=some 8) (v:= ?_) (a':= ?_) #[true,true,true,true,true,true,true,true,true,true,true,false] rfl rfl (any_of HT_.out (by kernel_rfl)) (fun _ _ _ h=>h) (Or.inl ⟨by rfl,?_⟩) ?_ ?_
   rotate_left
   ·intro w'
    go_simp
    with_reducible rfl
   rotate_left
   ·simp only[Act.put,List.setIfInBounds_toArray,List.set_cons_zero,List.set_cons_succ,i64_w,i32_w]
    rfl
   refine pure_ (i:=11) (N:=some 9) (v:= ?_) (a':= ?_) #[true,true,true,true,true,true,true,true,true,true,true,true] rfl rfl (any_of HT_.out (by kernel_rfl)) (fun _ _ _ h=>h) (Or.inl ⟨by rfl,?_⟩) ?_ ?_
   rotate_left
   ·intro w'
    go_simp
    with_reducible rfl
   rotate_left
   ·simp only[Act.put,List.setIfInBounds_toArray,List.set_cons_zero,List.set_cons_succ,i64_w,i32_w]
    rfl
   refine done_ (done_of HT_.out (by kernel_rfl)) ?_;have hcz20_0:w19.cell? ⟨Ju,0,none⟩=some (.int .i64 Zc):=(Yc Xl.out 0).trans rfl;have hcz20_1:w19.cell? ⟨Ju,1,none⟩=some (.bool Zb):=(Yc Xl.out 1).trans rfl;have hcz20_2:w19.cell? ⟨Ju,2,none⟩=some (.slice Ze Za.length Zd):=(Yc Xl.out 2).trans rfl;have hfz20_0:=Yf Xl.out 0;have hfz20_1:=Yf Xl.out 1;have hfz20_2:=Yf Xl.out 2;obtain⟨Ao21,co21,eo21⟩:=Kd.R_slice HO937.out;subst eo21;try go_wp2_with (first|((with_reducible refine gate_callee (f:=61) rfl ?_);refine goesL_ (some 32) rfl rfl Try.func61 (by kernel_rfl) rfl #[.agg #[.int .i64 Zc, .bool Zb, .slice Ze Za.length Zd], .slice Ao16 Wi.length co16, .slice Ao21 t935.length co21] rfl (by(try simp only[List.map_toArray,List.map_cons,List.map_nil]);first|done|rfl|(simp only[List.length_drop,List.length_take];rfl)) ?_;(with_reducible refine(ebbtideref08_Bottle.calls k1 Zc Zb _ _ Za _ _ Wi _ _ t935 t939 _ ?side1 ?side2 ?side3 ?side4 ?side5 ?side6 A13.out).mono ?_);(case side1=>repeat(first|exact(Yt Zl.out HB.out)|(with_reducible refine Kd.C_alloc ?_ _)|(with_reducible refine Kd.C_drewN ?_ _)|(with_reducible refine Kd.C_drew ?_)));(case side2=>exact Zv.out);(case side3=>repeat(first|exact(Kd.R_reads' HO_7.out).2.2|(with_reducible refine Kd.C_alloc ?_ _)|(with_reducible refine Kd.C_drewN ?_ _)|(with_reducible refine Kd.C_drew ?_)));(case side4=>exact(Kd.R_reads' HO_7.out).2.1);(case side5=>repeat(first|exact(Kd.R_reads' HO937.out).2.2|(with_reducible refine Kd.C_alloc ?_ _)|(with_reducible refine Kd.C_drewN ?_ _)|(with_reducible refine Kd.C_drew ?_)));(case side6=>exact(Kd.R_reads' HO937.out).2.1);rintro e w22 ⟨rfl,hb⟩;refine⟨_,rfl,?_⟩;have n0_:=Ya (Ys (by(with_reducible repeat(first|apply Yr|apply Yq|apply Yp));exact HO_7.out) hb);have n1_:=Ya (Ys (by(with_reducible repeat(first|apply Yr|apply Yq|apply Yp));exact Jy.out) hb);have n2_:=Ya (Ys (by(with_reducible repeat(first|apply Yr|apply Yq|apply Yp));exact HO937.out) hb);have n3_:=Ya (Yn (g:=Ju) (o:= .cells #[.int .i64 Zc, .bool Zb, .slice Ze Za.length Zd] 24 (0,0)) (by(with_reducible repeat(first|refine Yl ?_ _|refine Ym ?_|refine Yj ?_ _));exact Xl.out) hb);have n4_:=Ya (Yk (by repeat(first|(with_reducible first|exact HB.out|apply Ye|apply Yd|apply Yg|refine Yh ?_ GE928.out)|exact HB.out)) hb);clear HO_7;clear Jy;clear HO937;clear Xl;clear HB;have HO_7:=n0_;have Jy:=n1_;have HO937:=n2_;have Xl:=n3_;have HB:=n4_;clear n0_ n1_ n2_ n3_ n4_;(try clear hb);(try clear hb2);(try clear hk);(try clear hi))|((with_reducible refine gate_callee (f:=130) rfl ?_);refine goesL_ (some 33) rfl rfl Try.func130 (by kernel_rfl) rfl #[.slice Ao16 Wi.length co16, .slice Ao21 t935.length co21, .int .i64 t939] rfl (by(try simp only[List.map_toArray,List.map_cons,List.map_nil]);first|done|rfl|(simp only[List.length_drop,List.length_take];rfl)) ?_;(with_reducible refine(ebbtideref07_Pushed.calls k1 _ _ Wi _ _ t935 t939 t940 _ ?side1 ?side2 ?side3 ?side4 A14.out).mono ?_);(case side1=>repeat(first|exact(Kd.R_reads' HO_7.out).2.2|(with_reducible refine Kd.C_alloc ?_ _)|(with_reducible refine Kd.C_drewN ?_ _)|(with_reducible refine Kd.C_drew ?_)));(case side2=>exact(Kd.R_reads' HO_7.out).2.1);(case side3=>repeat(first|exact(Kd.R_reads' HO937.out).2.2|(with_reducible refine Kd.C_alloc ?_ _)|(with_reducible refine Kd.C_drewN ?_ _)|(with_reducible refine Kd.C_drew ?_)));(case side4=>exact(Kd.R_reads' HO937.out).2.1);rintro e w23 ⟨v941,rfl,ho0,hb⟩;refine⟨_,rfl,?_⟩;have n0_:=Ya (Kd.R_elder' (by(with_reducible repeat(first|apply Yr|apply Yq|apply Yp));exact HO_7.out) (Kd.R_base ho0) hb);have n1_:=Ya (Ys (by(with_reducible repeat(first|apply Yr|apply Yq|apply Yp));exact Jy.out) hb);have n2_:=Ya (Ys (by(with_reducible repeat(first|apply Yr|apply Yq|apply Yp));exact HO937.out) hb);have n3_:=Ya (Kd.R_lower (Kd.R_new' ho0 (Kd.R_lt (by(with_reducible repeat(first|apply Yr|apply Yq|apply Yp));exact HO_7.out))) (Yi (by repeat(first|(with_reducible first|exact HB.out|apply Ye|apply Yd|apply Yg|refine Yh ?_ GE928.out)|exact HB.out))));have n4_:=Ya (Yn (g:=Ju) (o:= .cells #[.int .i64 Zc, .bool Zb, .slice Ze Za.length Zd] 24 (0,0)) (by(with_reducible repeat(first|refine Yl ?_ _|refine Ym ?_|refine Yj ?_ _));exact Xl.out) hb);have n5_:=Ya (Yk (by repeat(first|(with_reducible first|exact HB.out|apply Ye|apply Yd|apply Yg|refine Yh ?_ GE928.out)|exact HB.out)) hb);clear HO_7;clear Jy;clear HO937;clear Xl;clear HB;have HO_7:=n0_;have Jy:=n1_;have HO937:=n2_;have HO942:=n3_;have Xl:=n4_;have HB:=n5_;clear n0_ n1_ n2_ n3_ n4_ n5_;(try clear hb);(try clear hb2);(try clear hk);(try clear hi);(try clear ho0)))
   go_roundg k1
   case measure=>have:=HK1.out;omega
   case rel=>exact⟨(t940),H',⟨by have:=HK1.out;omega⟩,⟨by(with_reducible repeat(first|apply Yr|apply Yq|apply Yp));exact Kd.R_mono HO942.out (fun _ hk=>trivial)⟩,⟨by(with_reducible repeat(first|refine Yl ?_ _|refine Ym ?_|refine Yj ?_ _));exact Xl.out⟩,⟨by repeat(first|(with_reducible first|exact HB.out|apply Ye|apply Yd|apply Yg|refine Yh ?_ GE928.out)|exact HB.out)⟩⟩
end P
namespace H
open P
def behindF (l:List S74) (F:List Int) (n s:Nat):List Bool:=(dOf n (bfP l F n s)).map fun k=>decide (k≥0)
end H
namespace P
attribute [local go_sem] max2_int min2_int max_two min_two max_three min_three max_four min_four
def mincut_reached.l0:Nat→List Bool→List Int→Int→Int→Option (List Bool)
 |0,_,_,_,_=>none
 |k+1,x3,x9,x10,x11=>if x11<x10 then(if 0≤x11 then(if x11<(x9.length:Int) then(if x11<(x3.length:Int) then(mincut_reached.l0 k (x3.set (x11:Int).toNat (decide ((rd x9 x11)≥0))) x9 x10 (wrap64 (x11+1))) else(none)) else(none)) else(none)) else(some x3)
def mincut_reached.f (k:Nat) (l0:List Int):Option (List Bool):=if 0≤(l0.length:Int) then(if ((l0.length:Int):Int).toNat≤281474976710656 then(mincut_reached.l0 k (List.replicate ((l0.length:Int):Int).toNat false) l0 (l0.length:Int) 0) else(none)) else(none)
set_option maxHeartbeats 8000000 in
set_option maxRecDepth 100000 in
theorem mincut_reached.calls (k:Nat) (A0:Option Addr) (c0:Nat) (l0:List Int) (r:List Bool) (w:World) (hr0:Kd.C (Kd.int .i64) w A0 l0.length l0) (hc0:l0.length≤c0) (h:mincut_reached.f k l0=some r):
  Calls Try.prog 128 #[.slice A0 l0.length c0] w fun e w'=> ∃ v0_:Value,e= .returned (v0_)∧Kd.R Kd.bool 4 w' w.heap.size (fun _=>True) v0_ r∧Below w.heap.size w w':=by
 have HR0:=Ya hr0;have HC0:=Ya hc0;clear hr0 hc0;have HB:=Ya (Yo w.heap.size w);have H:(if 0≤(l0.length:Int) then(if ((l0.length:Int):Int).toNat≤281474976710656 then(mincut_reached.l0 k (List.replicate ((l0.length:Int):Int).toNat false) l0 (l0.length:Int) 0) else(none)) else(none))=some r:=h;clear h;by_cases c2:0≤(l0.length:Int)
 rotate_left
 ·rw[Yy c2] at H
  exact absurd H (by simp)
 rw[Yx c2] at H;have c2b0:=eq_true c2;have c2b1:decide (0≤(l0.length:Int))=true:=Yv c2;clear c2;by_cases c3:((l0.length:Int):Int).toNat≤281474976710656
 rotate_left
 ·rw[Yy c3] at H
  exact absurd H (by simp)
 rw[Yx c3] at H;have c3b0:=eq_true c3;have c3b1:decide (((l0.length:Int):Int).toNat≤281474976710656)=true:=Yv c3;clear c3;obtain⟨y1026,hy1026⟩: ∃ y_:List Bool,y_=(List.replicate ((l0.length:Int):Int).toNat false):=⟨_,rfl⟩;replace H:(mincut_reached.l0 k y1026 l0 (l0.length:Int) 0)=some r:=by first|(rw[hy1026];with_reducible exact H)|(have H2_:=(Option.bind_some _ _).symm.trans H;rw[hy1026];with_reducible exact H2_)|(have H2_:=(Option.bind_some _ _).symm.trans H;with_reducible exact H2_)|with_reducible exact H|(rw[hy1026];exact H)|exact H
 have Ny1026:=Ya hy1026;clear hy1026;have H':=Ya H;clear H;go_enter Try.func128,Try.ntmps128;go_wp2_with (first|((with_reducible refine gate_dst (N:=8) rfl ?_);refine Kd.R_make Kd.bool _ 4 rfl (N:=8) rfl 26 _ _ rfl (l0.length:Int) rfl rfl Try.underlying26 (.bool false) 1 info4 rfl (by decide) (by omega) false (ok:=fun _=>True) (okp:=fun _=>True) rfl (fun _ hk=>hk) trivial (Yu (by first|(with_reducible assumption)|assumption)) (Nat.le_trans (Nat.mul_le_mul_right _ (Yu (by first|(with_reducible assumption)|assumption):(l0.length:Int).toNat≤281474976710656)) (by omega)) (Yo _ _) (Nat.le_refl _) ?_;intro v1027 w4 ho5 hb hg_ hnew_;clear hg_ hnew_;(first|rw[← Ny1026.out] at ho5|(simp only[Int.reduceToNat] at ho5;rw[← Ny1026.out] at ho5));have n0_:=Ya (Kd.R_lower ho5 (Yi (by repeat(first|(with_reducible first|exact HB.out|apply Ye|apply Yd|apply Yg)|exact HB.out))));have n1_:=Ya (Yk (by repeat(first|(with_reducible first|exact HB.out|apply Ye|apply Yd|apply Yg)|exact HB.out)) hb);clear HB;have HO1028:=n0_;have HB:=n1_;clear n0_ n1_;clear hb ho5));go_loopg [11] k (fun kq v11 w'=> ∃ (x3_1:List Bool) (Zh:Int),v11= .int .i64 Zh∧Aside0 (mincut_reached.l0 kq x3_1 l0 (l0.length:Int) Zh=some r)∧Aside0 (kq≤k)∧Aside0 (Kd.R Kd.bool 4 w' w.heap.size (fun _=>True) v1027 x3_1)∧Aside0 (Below w.heap.size w w'))
 case atStart=>exact⟨(y1026),(0),(by first|rfl|(simp;done)|(simp[*];done)),H',⟨Nat.le_refl _⟩,⟨by(with_reducible repeat(first|apply Yr|apply Yq|apply Yp));exact HO1028.out⟩,⟨by repeat(first|(with_reducible first|exact HB.out|apply Ye|apply Yd|apply Yg)|exact HB.out)⟩⟩
 case round=>
  clear H';try clear c1
  try clear c2
  try clear c2b0
  try clear c2b1
  try clear p2
  try clear c3
  try clear c3b0
  try clear c3b1
  obtain⟨x3_1,Zh,rfl,HA,HK1,HO_3,HB⟩:=hrel;cases gk with
  |zero=>exact absurd HA.out (by simp[mincut_reached.l0])
  |succ k1=>
   have H:=HA.out;clear HA;simp only[mincut_reached.l0] at H;by_cases c6:Zh<(l0.length:Int)
   rotate_left
   ·rw[Yy c6] at H
    have c6b0:decide (Zh<(l0.length:Int))=false:=Yw c6;clear c6;obtain rfl:=Option.some.inj H;go_wp2;go_ret;exact⟨_,by first|rfl|(simp[errW_none,errW_some]<;>rfl)|(simp[*,errW_none,errW_some]<;>rfl),by(with_reducible repeat(first|apply Yr|apply Yq|apply Yp));exact HO_3.out,by repeat(first|(with_reducible first|exact HB.out|apply Ye|apply Yd|apply Yg)|exact HB.out)⟩
   rw[Yx c6] at H;have c6b0:decide (Zh<(l0.length:Int))=true:=Yv c6;clear c6;by_cases c7:0≤Zh
   rotate_left
   ·rw[Yy c7] at H
    exact absurd H (by simp)
   rw[Yx c7] at H;have c7b0:decide (0≤Zh)=true:=Yv c7;clear c7;by_cases c8:Zh<(l0.length:Int)
   rotate_left
   ·rw[Yy c8] at H
    exact absurd H (by simp)
   rw[Yx c8] at H;have c8b0:decide (Zh<(l0.length:Int))=true:=Yv c8;clear c8;by_cases c9:Zh<(x3_1.length:Int)
   rotate_left
   ·rw[Yy c9] at H
    exact absurd H (by simp)
   rw[Yx c9] at H;have c9b0:decide (Zh<(x3_1.length:Int))=true:=Yv c9;clear c9;obtain⟨y1030,hy1030⟩: ∃ y_:List Bool,y_=(x3_1.set (Zh:Int).toNat (decide ((rd l0 Zh)≥0))):=⟨_,rfl⟩;replace H:(mincut_reached.l0 k1 y1030 l0 (l0.length:Int) (wrap64 (Zh+1)))=some r:=by first|(rw[hy1030];with_reducible exact H)|(have H2_:=(Option.bind_some _ _).symm.trans H;rw[hy1030];with_reducible exact H2_)|(have H2_:=(Option.bind_some _ _).symm.trans H;with_reducible exact H2_)|with_reducible exact H|(rw[hy1030];exact H)|exact H
   have Ny1030:=Ya hy1030;clear hy1030;have H':=Ya H;clear H;have p1029:0≤(Zh:Int):=Yu (by first|(with_reducible assumption)|assumption);have q1029:Zh<(l0.length:Int):=Yu (by first|(with_reducible assumption)|assumption);obtain⟨ad1029,e1029,hx1029_0⟩:=Kd.at_int HR0.out Zh p1029 q1029;cases e1029;replace hx1029_0:=(HB.out.cell (Yb w _ hx1029_0)).trans hx1029_0;replace p1029:=eq_true p1029;replace q1029:=eq_true q1029;have p10:0≤(Zh:Int):=Yu (by first|(with_reducible assumption)|assumption);have q10:(Zh:Int)<((x3_1.length:Int):Int):=Yu (by first|(with_reducible assumption)|assumption);obtain⟨go10,co10,eo10,gb10,gl10,cl10,HG10⟩:=Kd.R_form HO_3.out (by omega)
   (first|cases eo10|(injection eo10 with ea_ en_ ec_;(first|subst ea_|(injection ea_ with ea_;subst ea_));subst ec_;clear en_))
   have GB10:=Ya gb10;have GG10:=Ya HG10;clear gb10 gl10 HG10;obtain⟨hx10_0,hf10_0⟩:=Kd.R_celln false HO_3.out (Zh:Int) p10 q10;replace p10:=eq_true p10;replace q10:=eq_true q10;have HP11:=Kd.R_putg HO_3.out (Zh:Int) (decide ((rd l0 Zh)≥0));go_wp2_with (first|((with_reducible refine gate_store (t:=4) (p:=20) rfl ?_);refine store_event (t:=4) (p:=20) (v:= ?vo_w12) (w1:=(wr.setCell ⟨go10,(Zh:Int).toNat,none⟩ (.bool (decide ((rd l0 Zh)≥0))))) ?hg ?ho ?hn ?hr ?_;(case ho=>rfl);(case hg=>rfl);(case hn=>rfl);(case hr=>first|(go_simp;done)|(go_simp;rfl));intro w12 hw;have hg:wr.grownBy w12 (some go10):=(by rw[hw];exact HP11.2);have hp_:Kd.R Kd.bool 4 w12 w.heap.size (fun _=>True) (.slice (some ⟨go10,0,none⟩) x3_1.length co10) y1030:=(by rw[hw,Ny1030.out];exact HP11.1);clear HP11;have n0_:=Ya (hp_);have n1_:=Ya ((by rw[hw];exact Yh (HB.out) GB10.out:Below w.heap.size w w12));clear HO_3;clear HB;have HO_3:=n0_;have HB:=n1_;clear n0_ n1_;clear hg hw hp_));go_roundg k1
   case measure=>have:=HK1.out;omega
   case rel=>exact⟨(y1030),(wrap64 (Zh+1)),(by first|rfl|(simp;done)|(simp[*];done)),H',⟨by have:=HK1.out;omega⟩,⟨by(with_reducible repeat(first|apply Yr|apply Yq|apply Yp));exact HO_3.out⟩,⟨by repeat(first|(with_reducible first|exact HB.out|apply Ye|apply Yd|apply Yg)|exact HB.out)⟩⟩
end P
namespace Q
open P
def farB (d:List Int):List Bool:=d.map fun k=>decide (k≥0)
theorem reached_l0 (d:List Int) (hd:d.length≤1000000) (m:Nat): ∀ i:Nat,i+m=d.length→
  Ev (fun k=>mincut_reached.l0 k (farB (d.take i) ++ List.replicate (d.length - i) false) d (d.length:Int) (i:Int)) (farB d):=by
 induction m with
 |zero=>
  intro i hi;refine Ev.succ ?_;simp only[mincut_reached.l0];refine Ev.neg (by omega) ?_;refine Ev.done ?_;rw[List.take_of_length_le (by omega),show d.length - i=0 by omega,List.replicate_zero,List.append_nil]
 |succ m ih=>
  intro i hi;have hnx:=ih (i+1) (by omega);have e:(farB (d.take i) ++ List.replicate (d.length - i) false).set i (decide (rd d (i:Int)≥0))=farB (d.take (i+1)) ++ List.replicate (d.length - (i+1)) false:=by
   rw[rd_nat,List.getD_eq_getElem?_getD,List.getElem?_eq_getElem (by omega)];rw[show d.length - i=(d.length - (i+1))+1 by omega,List.replicate_succ];have hl:(farB (d.take i)).length=i:=by unfold farB;rw[List.length_map,List.length_take];omega
   rw[List.set_append,Yy (by omega),hl,Nat.sub_self,List.set_cons_zero];rw[List.take_add_one,List.getElem?_eq_getElem (by omega)];unfold farB;rw[List.map_append,List.append_assoc];rfl
  rw[← e] at hnx;refine Ev.succ ?_;simp only[mincut_reached.l0];refine Ev.pos (by omega) ?_;refine Ev.pos (by omega) ?_;refine Ev.pos (by omega) ?_;refine Ev.pos (by unfold farB;rw[List.length_append,List.length_map,List.length_take,List.length_replicate];omega) ?_;rw[wrap_succ (n:=d.length) (by omega) (by omega),Int.toNat_natCast];exact hnx
theorem reached_ev (d:List Int) (hd:d.length≤1000000):Ev (fun k=>mincut_reached.f k d) (farB d):=by
 unfold mincut_reached.f;refine Ev.pos (by omega) ?_;refine Ev.pos (by omega) ?_;rw[Int.toNat_natCast];exact reached_l0 d hd d.length 0 (by omega)
end Q
namespace H
open P Q
set_option maxHeartbeats 4000000 in
set_option maxRecDepth 100000 in
theorem mincut_Behind_calls (Zc:Int) (Zb:Bool) (Ze:Option Addr) (Zd:Nat) (Za:List S74) (A1:Option Addr) (c1:Nat) (l1:List Int) (a2:Int) (r:List Bool) (w:World) (Zr:Kd.C k74 w Ze Za.length Za) (Zs:Za.length≤Zd) (hr1:Kd.C (Kd.int .i64) w A1 l1.length l1) (hc1:l1.length≤c1) (h:(if askErr Zc Za l1=0∧0≤a2∧a2<Zc then some (behindF Za l1 Zc.toNat a2.toNat) else none)=some r):
  Calls Try.prog 124 #[.agg #[.int .i64 Zc, .bool Zb, .slice Ze Za.length Zd], .slice A1 l1.length c1, .int .i64 a2] w fun e w'=> ∃ v0_:Value,e= .returned (v0_)∧Kd.R Kd.bool 4 w' w.heap.size (fun _=>True) v0_ r∧Below w.heap.size w w':=by
 by_cases he:askErr Zc Za l1=0∧0≤a2∧a2<Zc
 ·rw[Yx he] at h
  injection h with h
  obtain⟨h0,h1,h2⟩:=he;obtain⟨n0,rfl,hR⟩:=right_of h0;obtain⟨s0,rfl⟩: ∃ s0:Nat,a2=s0:=⟨a2.toNat,by omega⟩;rw[Int.toNat_natCast,Int.toNat_natCast] at h;have hs0:s0<n0:=by omega
  have hn50:=hR.fifty;have harc:=hR.arcs;obtain⟨K,hK⟩:=reached_ev (dOf n0 (bfP Za l1 n0 s0)) (by rw[dOf_len];omega);have hr:=hK K (Nat.le_refl _);have hb:farB (dOf n0 (bfP Za l1 n0 s0))=r:=h;rw[hb] at hr;have HRC:=Ya hr;have HR:=Ya hR;have H2:=Ya Zr;have H3:=Ya hr1;have HC2:=Ya Zs;have HC1:=Ya hc1;clear h h0 h1 h2 hK hr hb hR Zr hr1 Zs hc1;go_enter Try.func124,Try.ntmps124;go_wp2_with (first|((with_reducible refine gate_dst (N:=3) rfl ?_);refine Yz ?hg (N:=3) ?hd (cs:= #[.int .i64 (n0:Int), .bool Zb, .slice Ze Za.length Zd]) (t:=24) ?hr ?_;(case hd=>rfl);(case hg=>rfl);(case hr=>first|(go_simp;done)|(go_simp;rfl));intro g4 hg4 w5 Zf hb;have B4:=Ya Zf;have HB:=Ya hb;clear hg4 Zf hb;have h0:w5.cell? ⟨g4,0,none⟩=some (.int .i64 (n0:Int)):=(Yc B4.out 0).trans rfl;have h1:w5.cell? ⟨g4,1,none⟩=some (.bool Zb):=(Yc B4.out 1).trans rfl;have h2:w5.cell? ⟨g4,2,none⟩=some (.slice Ze Za.length Zd):=(Yc B4.out 2).trans rfl)|(go_at_call 101;refine(at_calls n0 Zb Ze Zd Za A1 c1 l1.length _ (Yt H2.out HB.out) HC2.out (by omega) (by omega) (by omega) (fun k hk=>(HR.out.ends k hk).1) (fun k hk=>(HR.out.ends k hk).2)).mono ?_;rintro e_ w7 ⟨vr,rfl,hS,hb⟩;obtain⟨A4,c4,ev⟩:=Kd.S_slice hS;subst ev;have H4:=Ya (Kd.S_reads' hS).2.2;rw[rowsAt_len] at H4 ⊢;have n0_:=Ya (Yk HB.out hb);clear HB hb hS h0 h1 h2;have HB:=n0_;clear n0_)|(go_at_call 108;refine(far_calls n0 Zb Ze Zd Za A1 c1 l1 A4 c4 s0 _ HR.out hs0 HC2.out HC1.out (Yt H2.out HB.out) (Yt H3.out HB.out) H4.out).mono ?_;rintro e_ w8 ⟨gd,rfl,hge,hd,hb⟩;have HD:=Ya hd;have n0_:=Ya (Yk HB.out hb);clear HB hb hd hge;have HB:=n0_;clear n0_;have HCD:Aside0 (Kd.C (Kd.int .i64) w8 (some ⟨gd,0,none⟩) n0 (dOf n0 (bfP Za l1 n0 s0))):=⟨by have h_:=(Kd.R_reads' (HD.out.R (by rw[dOf_len];omega) (base:=0) (Nat.zero_le _) (ok:=fun _=>True) trivial)).2.2;rw[dOf_len] at h_;exact h_⟩)|(go_at_call 128;have key:=mincut_reached.calls K (some ⟨gd,0,none⟩) n0 (dOf n0 (bfP Za l1 n0 s0)) r w8 (by rw[dOf_len];exact HCD.out) (by rw[dOf_len];exact Nat.le_refl _) HRC.out;rw[dOf_len] at key;refine key.mono ?_;rintro e_ w9 ⟨v0,rfl,hr9,hb⟩;have HR9:=Ya (Kd.R_lower hr9 HB.out.size);have n0_:=Ya (Yk HB.out hb);clear HB hb hr9;have HB:=n0_;clear n0_)|fail);go_ret;exact⟨_,rfl,HR9.out,HB.out⟩
 ·rw[Yy he] at h;cases h
end H
namespace P
attribute [local go_sem] max2_int min2_int max_two min_two max_three min_three max_four min_four
def mincut_Behind.f (Zc:Int) (Zb:Bool) (Za:List (S74)) (l1:List Int) (a2:Int):Option (List Bool):=(if Q.askErr Zc Za l1=0∧0≤a2∧a2<Zc then some (H.behindF Za l1 Zc.toNat a2.toNat) else none)
theorem mincut_Behind.calls (Zc:Int) (Zb:Bool) (Ze:Option Addr) (Zd:Nat) (Za:List (S74)) (A1:Option Addr) (c1:Nat) (l1:List Int) (a2:Int) (r:List Bool) (w:World) (Zr:Kd.C k74 w Ze Za.length Za) (Zs:Za.length≤Zd) (hr1:Kd.C (Kd.int .i64) w A1 l1.length l1) (hc1:l1.length≤c1) (h:mincut_Behind.f Zc Zb Za l1 a2=some r):
  Calls Try.prog 124 #[.agg #[.int .i64 Zc, .bool Zb, .slice Ze Za.length Zd], .slice A1 l1.length c1, .int .i64 a2] w fun e w'=> ∃ v0_:Value,e= .returned (v0_)∧Kd.R Kd.bool 4 w' w.heap.size (fun _=>True) v0_ r∧Below w.heap.size w w':=H.mincut_Behind_calls Zc Zb Ze Zd Za A1 c1 l1 a2 r w Zr Zs hr1 hc1 h
end P
namespace P
attribute [local go_sem] max2_int min2_int max_two min_two max_three min_three max_four min_four
def mincut_takes.l0:Nat→List Bool→Int→List (S74)→Int→Int→Option (Int)
 |0,_,_,_,_,_=>none
 |k+1,x1,x5,x9,x10,x11=>if x11<x10 then(if 0≤x11 then(if x11<(x9.length:Int) then(if 0≤((rd_T74 x9 x11).f0) then(if ((rd_T74 x9 x11).f0)<(x1.length:Int) then(if rdOf false x1 ((rd_T74 x9 x11).f0)=true then(if 0≤((rd_T74 x9 x11).f1) then(if ((rd_T74 x9 x11).f1)<(x1.length:Int) then(if (rdOf false x1 ((rd_T74 x9 x11).f1)=true) then(mincut_takes.l0 k x1 x5 x9 x10 (wrap64 (x11+1))) else(mincut_takes.l0 k x1 (wrap64 (x5+((rd_T74 x9 x11).f2))) x9 x10 (wrap64 (x11+1)))) else(none)) else(none)) else(mincut_takes.l0 k x1 x5 x9 x10 (wrap64 (x11+1)))) else(none)) else(none)) else(none)) else(none)) else(some x5)
def mincut_takes.f (k:Nat) (Zc:Int) (Zb:Bool) (Za:List (S74)) (l1:List Bool):Option (Int):=mincut_takes.l0 k l1 0 Za (Za.length:Int) 0
set_option maxHeartbeats 8000000 in
set_option maxRecDepth 100000 in
theorem mincut_takes.calls (k:Nat) (Zc:Int) (Zb:Bool) (Ze:Option Addr) (Zd:Nat) (Za:List (S74)) (A1:Option Addr) (c1:Nat) (l1:List Bool) (r:Int) (w:World) (Zr:Kd.C k74 w Ze Za.length Za) (Zs:Za.length≤Zd) (hr1:Kd.C Kd.bool w A1 l1.length l1) (hc1:l1.length≤c1) (h:mincut_takes.f k Zc Zb Za l1=some r):
  Calls Try.prog 125 #[.agg #[.int .i64 Zc, .bool Zb, .slice Ze Za.length Zd], .slice A1 l1.length c1] w fun e w'=>e= .returned (.int .i64 r)∧Below w.heap.size w w':=by
 have hu24:=Try.underlying24;have hu74:=Try.underlying74;have Zl:=Ya Zr;have Zv:=Ya Zs;clear Zr Zs;have HR1:=Ya hr1;have HC1:=Ya hc1;clear hr1 hc1;have HB:=Ya (Yo w.heap.size w);have H:(mincut_takes.l0 k l1 0 Za (Za.length:Int) 0)=some r:=h;clear h;have H':=Ya H;clear H;go_enter Try.func125,Try.ntmps125;go_wp2_with (first|((with_reducible refine gate_dst (N:=2) rfl ?_);refine Yz ?hg (N:=2) ?hd (cs:= #[.int .i64 Zc, .bool Zb, .slice Ze Za.length Zd]) (t:=24) ?hr ?_;(case hd=>rfl);(case hg=>rfl);(case hr=>first|(go_simp;done)|(go_simp;rfl));intro Vq hg w3 Zf hb;have n0_:=Ya (Yk (by repeat(first|(with_reducible first|exact HB.out|apply Ye|apply Yd|apply Yg)|exact HB.out)) hb);have n1_:=Ya (Zf);have n2_:=Ya ((by rw[hg];exact(Yi (by repeat(first|(with_reducible first|exact HB.out|apply Ye|apply Yd|apply Yg)|exact HB.out))):w.heap.size≤Vq));have n3_:=Ya ((by rw[hg];exact(Yi (by repeat(first|(with_reducible first|exact HB.out|apply Ye|apply Yd|apply Yg)|exact HB.out))):w.heap.size≤Vq));clear HB;have HB:=n0_;have Wv:=n1_;have GW1032:=n2_;have GE1032:=n3_;clear n0_ n1_ n2_ n3_;clear hb Zf hg;have hcz4_0:w3.cell? ⟨Vq,0,none⟩=some (.int .i64 Zc):=(Yc Wv.out 0).trans rfl;have hcz4_1:w3.cell? ⟨Vq,1,none⟩=some (.bool Zb):=(Yc Wv.out 1).trans rfl;have hcz4_2:w3.cell? ⟨Vq,2,none⟩=some (.slice Ze Za.length Zd):=(Yc Wv.out 2).trans rfl;have hfz4_0:=Yf Wv.out 0;have hfz4_1:=Yf Wv.out 1;have hfz4_2:=Yf Wv.out 2));go_loopg [5,11] k (fun kq v5 v11 w'=> ∃ (Zt:Int) (Zh:Int),v5= .int .i64 Zt∧v11= .int .i64 Zh∧Aside0 (mincut_takes.l0 kq l1 Zt Za (Za.length:Int) Zh=some r)∧Aside0 (kq≤k)∧Aside0 (w'.heap[Vq]? =some (.cells #[.int .i64 Zc, .bool Zb,(.slice Ze Za.length Zd)] 24 (0,0)))∧Aside0 (Below w.heap.size w w'))
 case atStart=>exact⟨(0),(0),(by first|rfl|(simp;done)|(simp[*];done)),(by first|rfl|(simp;done)|(simp[*];done)),H',⟨Nat.le_refl _⟩,⟨by(with_reducible repeat(first|refine Yl ?_ _|refine Ym ?_|refine Yj ?_ _));exact Wv.out⟩,⟨by repeat(first|(with_reducible first|exact HB.out|apply Ye|apply Yd|apply Yg|refine Yh ?_ GE1032.out)|exact HB.out)⟩⟩
 case round=>
  clear H';try clear c1
  try clear p2
  try clear hcz4_0
  try clear hcz4_1
  try clear hcz4_2
  try clear hfz4_0
  try clear hfz4_1
  try clear hfz4_2
  obtain⟨Zt,Zh,rfl,rfl,HA,HK1,Wv,HB⟩:=hrel;cases gk with
  |zero=>exact absurd HA.out (by simp[mincut_takes.l0])
  |succ k1=>
   have H:=HA.out;clear HA;simp only[mincut_takes.l0] at H;by_cases c5:Zh<(Za.length:Int)
   rotate_left
   ·rw[Yy c5] at H
    have c5b0:decide (Zh<(Za.length:Int))=false:=Yw c5;clear c5;obtain rfl:=Option.some.inj H;go_wp2;go_ret;exact⟨by first|rfl|(simp[errW_none,errW_some]<;>rfl)|(simp[*,errW_none,errW_some]<;>rfl),by repeat(first|(with_reducible first|exact HB.out|apply Ye|apply Yd|apply Yg|refine Yh ?_ GE1032.out)|exact HB.out)⟩
   rw[Yx c5] at H;have c5b0:decide (Zh<(Za.length:Int))=true:=Yv c5;clear c5;by_cases c6:0≤Zh
   rotate_left
   ·rw[Yy c6] at H
    exact absurd H (by simp)
   rw[Yx c6] at H;have c6b0:decide (0≤Zh)=true:=Yv c6;clear c6;by_cases c7:Zh<(Za.length:Int)
   rotate_left
   ·rw[Yy c7] at H
    exact absurd H (by simp)
   rw[Yx c7] at H;have c7b0:decide (Zh<(Za.length:Int))=true:=Yv c7;clear c7;by_cases c8:0≤((rd_T74 Za Zh).f0)
   rotate_left
   ·rw[Yy c8] at H
    exact absurd H (by simp)
   rw[Yx c8] at H;have c8b0:decide (0≤((rd_T74 Za Zh).f0))=true:=Yv c8;clear c8;by_cases c9:((rd_T74 Za Zh).f0)<(l1.length:Int)
   rotate_left
   ·rw[Yy c9] at H
    exact absurd H (by simp)
   rw[Yx c9] at H;have c9b0:decide (((rd_T74 Za Zh).f0)<(l1.length:Int))=true:=Yv c9;clear c9;obtain⟨bq10,hbq10⟩: ∃ b_:Bool,b_=(rdOf false l1 ((rd_T74 Za Zh).f0)):=⟨_,rfl⟩;replace H:(if bq10=true then(if 0≤((rd_T74 Za Zh).f1) then(if ((rd_T74 Za Zh).f1)<(l1.length:Int) then(if (rdOf false l1 ((rd_T74 Za Zh).f1)=true) then(mincut_takes.l0 k1 l1 Zt Za (Za.length:Int) (wrap64 (Zh+1))) else(mincut_takes.l0 k1 l1 (wrap64 (Zt+((rd_T74 Za Zh).f2))) Za (Za.length:Int) (wrap64 (Zh+1)))) else(none)) else(none)) else(mincut_takes.l0 k1 l1 Zt Za (Za.length:Int) (wrap64 (Zh+1))))=some r:=by rw[← hbq10] at H;exact H
   have Nbq10:=Ya hbq10;clear hbq10;by_cases c11:bq10=true
   rotate_left
   ·replace c11:=Bool.eq_false_iff.mpr c11
    subst c11;have H1:(mincut_takes.l0 k1 l1 Zt Za (Za.length:Int) (wrap64 (Zh+1)))=some r:=by rw[Yy (show ¬ (false=true) by decide)] at H;exact H
    clear H;have H:=H1;clear H1;have H':=Ya H;clear H;have p1033:0≤(Zh:Int):=Yu (by first|(with_reducible assumption)|assumption);have q1033:Zh<(Za.length:Int):=Yu (by first|(with_reducible assumption)|assumption);obtain⟨ad1033,e1033,Jf,Jg,Jh,Ji⟩:=at_T74 Zl.out Zh p1033 q1033;cases e1033;replace Jf:=(HB.out.cell (Yb w _ Jf)).trans Jf;replace Jg:=(HB.out.cell (Yb w _ Jg)).trans Jg;replace Jh:=(HB.out.cell (Yb w _ Jh)).trans Jh;replace Ji:=(HB.out.cell (Yb w _ Ji)).trans Ji;replace p1033:=eq_true p1033;replace q1033:=eq_true q1033;go_wp2_with (first|((with_reducible refine gate_dst (N:=7) rfl ?_);refine Yz ?hg (N:=7) ?hd (cs:= #[.int .i64 0, .int .i64 0, .int .i64 0, .int .i64 0]) (t:=74) ?hr ?_;(case hd=>rfl);(case hg=>rfl);(case hr=>first|(go_simp;done)|(go_simp;rfl));intro Zw hg w22 Zf hb;have n0_:=Ya (Yn (g:=Vq) (o:= .cells #[.int .i64 Zc, .bool Zb, .slice (some ad1033) Za.length Zd] 24 (0,0)) (by(with_reducible repeat(first|refine Yl ?_ _|refine Ym ?_|refine Yj ?_ _));exact Wv.out) hb);have n1_:=Ya (Yk (by repeat(first|(with_reducible first|exact HB.out|apply Ye|apply Yd|apply Yg|refine Yh ?_ GE1032.out)|exact HB.out)) hb);have n2_:=Ya (Zf);have n3_:=Ya ((by rw[hg];exact(Yi (by repeat(first|(with_reducible first|exact HB.out|apply Ye|apply Yd|apply Yg|refine Yh ?_ GE1032.out)|exact HB.out))):w.heap.size≤Zw));have n4_:=Ya ((by rw[hg];exact(Yi (by repeat(first|(with_reducible first|exact HB.out|apply Ye|apply Yd|apply Yg|refine Yh ?_ GE1032.out)|exact HB.out))):w.heap.size≤Zw));have n5_:=Ya ((by rw[hg];exact Nat.ne_of_lt (blk_lt (g:=Vq) (o:= .cells #[.int .i64 Zc, .bool Zb, .slice (some ad1033) Za.length Zd] 24 (0,0)) (by(with_reducible repeat(first|refine Yl ?_ _|refine Ym ?_|refine Yj ?_ _));exact Wv.out)):Vq≠Zw));have n6_:=Ya ((by rw[hg];exact Nat.ne_of_gt (blk_lt (g:=Vq) (o:= .cells #[.int .i64 Zc, .bool Zb, .slice (some ad1033) Za.length Zd] 24 (0,0)) (by(with_reducible repeat(first|refine Yl ?_ _|refine Ym ?_|refine Yj ?_ _));exact Wv.out)):Zw≠Vq));clear Wv;clear HB;have Wv:=n0_;have HB:=n1_;have Ww:=n2_;have Vf:=n3_;have GE1034:=n4_;have Xv:=n5_;have NB1034_1032:=n6_;clear n0_ n1_ n2_ n3_ n4_ n5_ n6_;clear hb Zf hg;have hnb23:=NB1034_1032.out;have hnc23:=Xv.out;have hcz24_0:w22.cell? ⟨Zw,0,none⟩=some (.int .i64 0):=(Yc Ww.out 0).trans rfl;have hcz24_1:w22.cell? ⟨Zw,1,none⟩=some (.int .i64 0):=(Yc Ww.out 1).trans rfl;have hcz24_2:w22.cell? ⟨Zw,2,none⟩=some (.int .i64 0):=(Yc Ww.out 2).trans rfl;have hcz24_3:w22.cell? ⟨Zw,3,none⟩=some (.int .i64 0):=(Yc Ww.out 3).trans rfl;have hfz24_0:=Yf Ww.out 0;have hfz24_1:=Yf Ww.out 1;have hfz24_2:=Yf Ww.out 2;have hfz24_3:=Yf Ww.out 3;have p1035:0≤(((rd_T74 Za Zh).f0):Int):=Yu (by first|(with_reducible assumption)|assumption);have q1035:((rd_T74 Za Zh).f0)<(l1.length:Int):=Yu (by first|(with_reducible assumption)|assumption);obtain⟨Vb,e1035,Zp⟩:=Kd.at_bool HR1.out ((rd_T74 Za Zh).f0) p1035 q1035;(try rw[← Nbq10.out] at Zp);cases e1035;have hn1035_0:Vb.block≠Zw:=Nat.ne_of_lt (Nat.lt_of_lt_of_le (by have:=Yb _ _ Zp;first|rwa [add_block] at this|exact this) Vf.out);have hn1035_1:Vb.block≠Zw:=Nat.ne_of_lt (Nat.lt_of_lt_of_le (by have:=Yb _ _ Zp;first|rwa [add_block] at this|exact this) Vf.out);have hn1035_2:Vb.block≠Zw:=Nat.ne_of_lt (Nat.lt_of_lt_of_le (by have:=Yb _ _ Zp;first|rwa [add_block] at this|exact this) Vf.out);have hn1035_3:Vb.block≠Zw:=Nat.ne_of_lt (Nat.lt_of_lt_of_le (by have:=Yb _ _ Zp;first|rwa [add_block] at this|exact this) Vf.out);replace Zp:=(HB.out.cell (Yb w _ Zp)).trans Zp;replace Zp:=(cell_far (p:=⟨Zw,0,none⟩) (by first|(rw[add_block];exact hn1035_0)|(show (Addr.add _ _).block≠_;rw[add_block];exact hn1035_0)|exact hn1035_0) (.int .i64 ((rd_T74 Za Zh).f0))).trans Zp;replace Zp:=(cell_far (p:=⟨Zw,1,none⟩) (by first|(rw[add_block];exact hn1035_1)|(show (Addr.add _ _).block≠_;rw[add_block];exact hn1035_1)|exact hn1035_1) (.int .i64 ((rd_T74 Za Zh).f1))).trans Zp;replace Zp:=(cell_far (p:=⟨Zw,2,none⟩) (by first|(rw[add_block];exact hn1035_2)|(show (Addr.add _ _).block≠_;rw[add_block];exact hn1035_2)|exact hn1035_2) (.int .i64 ((rd_T74 Za Zh).f2))).trans Zp;replace Zp:=(cell_far (p:=⟨Zw,3,none⟩) (by first|(rw[add_block];exact hn1035_3)|(show (Addr.add _ _).block≠_;rw[add_block];exact hn1035_3)|exact hn1035_3) (.int .i64 ((rd_T74 Za Zh).f3))).trans Zp;clear hn1035_0;clear hn1035_1;clear hn1035_2;clear hn1035_3;replace p1035:=eq_true p1035;replace q1035:=eq_true q1035));go_roundg k1
    case measure=>have:=HK1.out;omega
    case rel=>exact⟨(Zt),(wrap64 (Zh+1)),(by first|rfl|(simp;done)|(simp[*];done)),(by first|rfl|(simp;done)|(simp[*];done)),H',⟨by have:=HK1.out;omega⟩,⟨by(with_reducible repeat(first|refine Yl ?_ _|refine Ym ?_|refine Yj ?_ _));refine blk_far ?_ Xv.out _;(with_reducible repeat(first|refine Yl ?_ _|refine Ym ?_|refine Yj ?_ _));refine blk_far ?_ Xv.out _;(with_reducible repeat(first|refine Yl ?_ _|refine Ym ?_|refine Yj ?_ _));refine blk_far ?_ Xv.out _;(with_reducible repeat(first|refine Yl ?_ _|refine Ym ?_|refine Yj ?_ _));refine blk_far ?_ Xv.out _;(with_reducible repeat(first|refine Yl ?_ _|refine Ym ?_|refine Yj ?_ _));exact Wv.out⟩,⟨by repeat(first|(with_reducible first|exact HB.out|apply Ye|apply Yd|apply Yg|refine Yh ?_ GE1032.out|refine Yh ?_ GE1034.out)|exact HB.out)⟩⟩
   subst c11;have H1:(if 0≤((rd_T74 Za Zh).f1) then(if ((rd_T74 Za Zh).f1)<(l1.length:Int) then(if (rdOf false l1 ((rd_T74 Za Zh).f1)=true) then(mincut_takes.l0 k1 l1 Zt Za (Za.length:Int) (wrap64 (Zh+1))) else(mincut_takes.l0 k1 l1 (wrap64 (Zt+((rd_T74 Za Zh).f2))) Za (Za.length:Int) (wrap64 (Zh+1)))) else(none)) else(none))=some r:=by first|(rw[Yx rfl] at H;exact H)|(rw[Yx trivial] at H;exact H)
   clear H;have H:=H1;clear H1;by_cases c12:0≤((rd_T74 Za Zh).f1)
   rotate_left
   ·rw[Yy c12] at H
    exact absurd H (by simp)
   rw[Yx c12] at H;have c12b0:decide (0≤((rd_T74 Za Zh).f1))=true:=Yv c12;clear c12;by_cases c13:((rd_T74 Za Zh).f1)<(l1.length:Int)
   rotate_left
   ·rw[Yy c13] at H
    exact absurd H (by simp)
   rw[Yx c13] at H;have c13b0:decide (((rd_T74 Za Zh).f1)<(l1.length:Int))=true:=Yv c13;clear c13;obtain⟨bq14,hbq14⟩: ∃ b_:Bool,b_=(rdOf false l1 ((rd_T74 Za Zh).f1)):=⟨_,rfl⟩;replace H:(if (bq14=true) then(mincut_takes.l0 k1 l1 Zt Za (Za.length:Int) (wrap64 (Zh+1))) else(mincut_takes.l0 k1 l1 (wrap64 (Zt+((rd_T74 Za Zh).f2))) Za (Za.length:Int) (wrap64 (Zh+1))))=some r:=by rw[← hbq14] at H;exact H
   have Nbq14:=Ya hbq14;clear hbq14;by_cases c15:(bq14=true)
   ·subst c15
    have H1:(mincut_takes.l0 k1 l1 Zt Za (Za.length:Int) (wrap64 (Zh+1)))=some r:=by first|(rw[Yx rfl] at H;exact H)|(rw[Yx trivial] at H;exact H)
    clear H;have H:=H1;clear H1;have H':=Ya H;clear H;have p1033:0≤(Zh:Int):=Yu (by first|(with_reducible assumption)|assumption);have q1033:Zh<(Za.length:Int):=Yu (by first|(with_reducible assumption)|assumption);obtain⟨ad1033,e1033,Jf,Jg,Jh,Ji⟩:=at_T74 Zl.out Zh p1033 q1033;cases e1033;replace Jf:=(HB.out.cell (Yb w _ Jf)).trans Jf;replace Jg:=(HB.out.cell (Yb w _ Jg)).trans Jg;replace Jh:=(HB.out.cell (Yb w _ Jh)).trans Jh;replace Ji:=(HB.out.cell (Yb w _ Ji)).trans Ji;replace p1033:=eq_true p1033;replace q1033:=eq_true q1033;go_wp2_with (first|((with_reducible refine gate_dst (N:=7) rfl ?_);refine Yz ?hg (N:=7) ?hd (cs:= #[.int .i64 0, .int .i64 0, .int .i64 0, .int .i64 0]) (t:=74) ?hr ?_;(case hd=>rfl);(case hg=>rfl);(case hr=>first|(go_simp;done)|(go_simp;rfl));intro Zw hg w16 Zf hb;have n0_:=Ya (Yn (g:=Vq) (o:= .cells #[.int .i64 Zc, .bool Zb, .slice (some ad1033) Za.length Zd] 24 (0,0)) (by(with_reducible repeat(first|refine Yl ?_ _|refine Ym ?_|refine Yj ?_ _));exact Wv.out) hb);have n1_:=Ya (Yk (by repeat(first|(with_reducible first|exact HB.out|apply Ye|apply Yd|apply Yg|refine Yh ?_ GE1032.out)|exact HB.out)) hb);have n2_:=Ya (Zf);have n3_:=Ya ((by rw[hg];exact(Yi (by repeat(first|(with_reducible first|exact HB.out|apply Ye|apply Yd|apply Yg|refine Yh ?_ GE1032.out)|exact HB.out))):w.heap.size≤Zw));have n4_:=Ya ((by rw[hg];exact(Yi (by repeat(first|(with_reducible first|exact HB.out|apply Ye|apply Yd|apply Yg|refine Yh ?_ GE1032.out)|exact HB.out))):w.heap.size≤Zw));have n5_:=Ya ((by rw[hg];exact Nat.ne_of_lt (blk_lt (g:=Vq) (o:= .cells #[.int .i64 Zc, .bool Zb, .slice (some ad1033) Za.length Zd] 24 (0,0)) (by(with_reducible repeat(first|refine Yl ?_ _|refine Ym ?_|refine Yj ?_ _));exact Wv.out)):Vq≠Zw));have n6_:=Ya ((by rw[hg];exact Nat.ne_of_gt (blk_lt (g:=Vq) (o:= .cells #[.int .i64 Zc, .bool Zb, .slice (some ad1033) Za.length Zd] 24 (0,0)) (by(with_reducible repeat(first|refine Yl ?_ _|refine Ym ?_|refine Yj ?_ _));exact Wv.out)):Zw≠Vq));clear Wv;clear HB;have Wv:=n0_;have HB:=n1_;have Ww:=n2_;have Vf:=n3_;have GE1034:=n4_;have Xv:=n5_;have NB1034_1032:=n6_;clear n0_ n1_ n2_ n3_ n4_ n5_ n6_;clear hb Zf hg;have hnb17:=NB1034_1032.out;have hnc17:=Xv.out;have hcz18_0:w16.cell? ⟨Zw,0,none⟩=some (.int .i64 0):=(Yc Ww.out 0).trans rfl;have hcz18_1:w16.cell? ⟨Zw,1,none⟩=some (.int .i64 0):=(Yc Ww.out 1).trans rfl;have hcz18_2:w16.cell? ⟨Zw,2,none⟩=some (.int .i64 0):=(Yc Ww.out 2).trans rfl;have hcz18_3:w16.cell? ⟨Zw,3,none⟩=some (.int .i64 0):=(Yc Ww.out 3).trans rfl;have hfz18_0:=Yf Ww.out 0;have hfz18_1:=Yf Ww.out 1;have hfz18_2:=Yf Ww.out 2;have hfz18_3:=Yf Ww.out 3;have p1035:0≤(((rd_T74 Za Zh).f0):Int):=Yu (by first|(with_reducible assumption)|assumption);have q1035:((rd_T74 Za Zh).f0)<(l1.length:Int):=Yu (by first|(with_reducible assumption)|assumption);obtain⟨Vb,e1035,Zp⟩:=Kd.at_bool HR1.out ((rd_T74 Za Zh).f0) p1035 q1035;(try rw[← Nbq10.out] at Zp);(try rw[← Nbq14.out] at Zp);cases e1035;have hn1035_0:Vb.block≠Zw:=Nat.ne_of_lt (Nat.lt_of_lt_of_le (by have:=Yb _ _ Zp;first|rwa [add_block] at this|exact this) Vf.out);have hn1035_1:Vb.block≠Zw:=Nat.ne_of_lt (Nat.lt_of_lt_of_le (by have:=Yb _ _ Zp;first|rwa [add_block] at this|exact this) Vf.out);have hn1035_2:Vb.block≠Zw:=Nat.ne_of_lt (Nat.lt_of_lt_of_le (by have:=Yb _ _ Zp;first|rwa [add_block] at this|exact this) Vf.out);have hn1035_3:Vb.block≠Zw:=Nat.ne_of_lt (Nat.lt_of_lt_of_le (by have:=Yb _ _ Zp;first|rwa [add_block] at this|exact this) Vf.out);replace Zp:=(HB.out.cell (Yb w _ Zp)).trans Zp;replace Zp:=(cell_far (p:=⟨Zw,0,none⟩) (by first|(rw[add_block];exact hn1035_0)|(show (Addr.add _ _).block≠_;rw[add_block];exact hn1035_0)|exact hn1035_0) (.int .i64 ((rd_T74 Za Zh).f0))).trans Zp;replace Zp:=(cell_far (p:=⟨Zw,1,none⟩) (by first|(rw[add_block];exact hn1035_1)|(show (Addr.add _ _).block≠_;rw[add_block];exact hn1035_1)|exact hn1035_1) (.int .i64 ((rd_T74 Za Zh).f1))).trans Zp;replace Zp:=(cell_far (p:=⟨Zw,2,none⟩) (by first|(rw[add_block];exact hn1035_2)|(show (Addr.add _ _).block≠_;rw[add_block];exact hn1035_2)|exact hn1035_2) (.int .i64 ((rd_T74 Za Zh).f2))).trans Zp;replace Zp:=(cell_far (p:=⟨Zw,3,none⟩) (by first|(rw[add_block];exact hn1035_3)|(show (Addr.add _ _).block≠_;rw[add_block];exact hn1035_3)|exact hn1035_3) (.int .i64 ((rd_T74 Za Zh).f3))).trans Zp;clear hn1035_0;clear hn1035_1;clear hn1035_2;clear hn1035_3;replace p1035:=eq_true p1035;replace q1035:=eq_true q1035;have p1036:0≤(((rd_T74 Za Zh).f1):Int):=Yu (by first|(with_reducible assumption)|assumption);have q1036:((rd_T74 Za Zh).f1)<(l1.length:Int):=Yu (by first|(with_reducible assumption)|assumption);obtain⟨ad1036,e1036,Xf⟩:=Kd.at_bool HR1.out ((rd_T74 Za Zh).f1) p1036 q1036;(try rw[← Nbq10.out] at Xf);(try rw[← Nbq14.out] at Xf);obtain rfl:Vb=ad1036:=(by injection e1036);have hn1036_0:Vb.block≠Zw:=Nat.ne_of_lt (Nat.lt_of_lt_of_le (by have:=Yb _ _ Xf;first|rwa [add_block] at this|exact this) Vf.out);have hn1036_1:Vb.block≠Zw:=Nat.ne_of_lt (Nat.lt_of_lt_of_le (by have:=Yb _ _ Xf;first|rwa [add_block] at this|exact this) Vf.out);have hn1036_2:Vb.block≠Zw:=Nat.ne_of_lt (Nat.lt_of_lt_of_le (by have:=Yb _ _ Xf;first|rwa [add_block] at this|exact this) Vf.out);have hn1036_3:Vb.block≠Zw:=Nat.ne_of_lt (Nat.lt_of_lt_of_le (by have:=Yb _ _ Xf;first|rwa [add_block] at this|exact this) Vf.out);replace Xf:=(HB.out.cell (Yb w _ Xf)).trans Xf;replace Xf:=(cell_far (p:=⟨Zw,0,none⟩) (by first|(rw[add_block];exact hn1036_0)|(show (Addr.add _ _).block≠_;rw[add_block];exact hn1036_0)|exact hn1036_0) (.int .i64 ((rd_T74 Za Zh).f0))).trans Xf;replace Xf:=(cell_far (p:=⟨Zw,1,none⟩) (by first|(rw[add_block];exact hn1036_1)|(show (Addr.add _ _).block≠_;rw[add_block];exact hn1036_1)|exact hn1036_1) (.int .i64 ((rd_T74 Za Zh).f1))).trans Xf;replace Xf:=(cell_far (p:=⟨Zw,2,none⟩) (by first|(rw[add_block];exact hn1036_2)|(show (Addr.add _ _).block≠_;rw[add_block];exact hn1036_2)|exact hn1036_2) (.int .i64 ((rd_T74 Za Zh).f2))).trans Xf;replace Xf:=(cell_far (p:=⟨Zw,3,none⟩) (by first|(rw[add_block];exact hn1036_3)|(show (Addr.add _ _).block≠_;rw[add_block];exact hn1036_3)|exact hn1036_3) (.int .i64 ((rd_T74 Za Zh).f3))).trans Xf;clear hn1036_0;clear hn1036_1;clear hn1036_2;clear hn1036_3;replace p1036:=eq_true p1036;replace q1036:=eq_true q1036));go_roundg k1
    case measure=>have:=HK1.out;omega
    case rel=>exact⟨(Zt),(wrap64 (Zh+1)),(by first|rfl|(simp;done)|(simp[*];done)),(by first|rfl|(simp;done)|(simp[*];done)),H',⟨by have:=HK1.out;omega⟩,⟨by(with_reducible repeat(first|refine Yl ?_ _|refine Ym ?_|refine Yj ?_ _));refine blk_far ?_ Xv.out _;(with_reducible repeat(first|refine Yl ?_ _|refine Ym ?_|refine Yj ?_ _));refine blk_far ?_ Xv.out _;(with_reducible repeat(first|refine Yl ?_ _|refine Ym ?_|refine Yj ?_ _));refine blk_far ?_ Xv.out _;(with_reducible repeat(first|refine Yl ?_ _|refine Ym ?_|refine Yj ?_ _));refine blk_far ?_ Xv.out _;(with_reducible repeat(first|refine Yl ?_ _|refine Ym ?_|refine Yj ?_ _));exact Wv.out⟩,⟨by repeat(first|(with_reducible first|exact HB.out|apply Ye|apply Yd|apply Yg|refine Yh ?_ GE1032.out|refine Yh ?_ GE1034.out)|exact HB.out)⟩⟩
   replace c15:=Bool.eq_false_iff.mpr c15;subst c15;have H1:(mincut_takes.l0 k1 l1 (wrap64 (Zt+((rd_T74 Za Zh).f2))) Za (Za.length:Int) (wrap64 (Zh+1)))=some r:=by rw[Yy (show ¬ (false=true) by decide)] at H;exact H
   clear H;have H:=H1;clear H1;have H':=Ya H;clear H;have p1033:0≤(Zh:Int):=Yu (by first|(with_reducible assumption)|assumption);have q1033:Zh<(Za.length:Int):=Yu (by first|(with_reducible assumption)|assumption);obtain⟨ad1033,e1033,Jf,Jg,Jh,Ji⟩:=at_T74 Zl.out Zh p1033 q1033;cases e1033;replace Jf:=(HB.out.cell (Yb w _ Jf)).trans Jf;replace Jg:=(HB.out.cell (Yb w _ Jg)).trans Jg;replace Jh:=(HB.out.cell (Yb w _ Jh)).trans Jh;replace Ji:=(HB.out.cell (Yb w _ Ji)).trans Ji;replace p1033:=eq_true p1033;replace q1033:=eq_true q1033;go_wp2_with (first|((with_reducible refine gate_dst (N:=7) rfl ?_);refine Yz ?hg (N:=7) ?hd (cs:= #[.int .i64 0, .int .i64 0, .int .i64 0, .int .i64 0]) (t:=74) ?hr ?_;(case hd=>rfl);(case hg=>rfl);(case hr=>first|(go_simp;done)|(go_simp;rfl));intro Zw hg w19 Zf hb;have n0_:=Ya (Yn (g:=Vq) (o:= .cells #[.int .i64 Zc, .bool Zb, .slice (some ad1033) Za.length Zd] 24 (0,0)) (by(with_reducible repeat(first|refine Yl ?_ _|refine Ym ?_|refine Yj ?_ _));exact Wv.out) hb);have n1_:=Ya (Yk (by repeat(first|(with_reducible first|exact HB.out|apply Ye|apply Yd|apply Yg|refine Yh ?_ GE1032.out)|exact HB.out)) hb);have n2_:=Ya (Zf);have n3_:=Ya ((by rw[hg];exact(Yi (by repeat(first|(with_reducible first|exact HB.out|apply Ye|apply Yd|apply Yg|refine Yh ?_ GE1032.out)|exact HB.out))):w.heap.size≤Zw));have n4_:=Ya ((by rw[hg];exact(Yi (by repeat(first|(with_reducible first|exact HB.out|apply Ye|apply Yd|apply Yg|refine Yh ?_ GE1032.out)|exact HB.out))):w.heap.size≤Zw));have n5_:=Ya ((by rw[hg];exact Nat.ne_of_lt (blk_lt (g:=Vq) (o:= .cells #[.int .i64 Zc, .bool Zb, .slice (some ad1033) Za.length Zd] 24 (0,0)) (by(with_reducible repeat(first|refine Yl ?_ _|refine Ym ?_|refine Yj ?_ _));exact Wv.out)):Vq≠Zw));have n6_:=Ya ((by rw[hg];exact Nat.ne_of_gt (blk_lt (g:=Vq) (o:= .cells #[.int .i64 Zc, .bool Zb, .slice (some ad1033) Za.length Zd] 24 (0,0)) (by(with_reducible repeat(first|refine Yl ?_ _|refine Ym ?_|refine Yj ?_ _));exact Wv.out)):Zw≠Vq));clear Wv;clear HB;have Wv:=n0_;have HB:=n1_;have Ww:=n2_;have Vf:=n3_;have GE1034:=n4_;have Xv:=n5_;have NB1034_1032:=n6_;clear n0_ n1_ n2_ n3_ n4_ n5_ n6_;clear hb Zf hg;have hnb20:=NB1034_1032.out;have hnc20:=Xv.out;have hcz21_0:w19.cell? ⟨Zw,0,none⟩=some (.int .i64 0):=(Yc Ww.out 0).trans rfl;have hcz21_1:w19.cell? ⟨Zw,1,none⟩=some (.int .i64 0):=(Yc Ww.out 1).trans rfl;have hcz21_2:w19.cell? ⟨Zw,2,none⟩=some (.int .i64 0):=(Yc Ww.out 2).trans rfl;have hcz21_3:w19.cell? ⟨Zw,3,none⟩=some (.int .i64 0):=(Yc Ww.out 3).trans rfl;have hfz21_0:=Yf Ww.out 0;have hfz21_1:=Yf Ww.out 1;have hfz21_2:=Yf Ww.out 2;have hfz21_3:=Yf Ww.out 3;have p1035:0≤(((rd_T74 Za Zh).f0):Int):=Yu (by first|(with_reducible assumption)|assumption);have q1035:((rd_T74 Za Zh).f0)<(l1.length:Int):=Yu (by first|(with_reducible assumption)|assumption);obtain⟨Vb,e1035,Zp⟩:=Kd.at_bool HR1.out ((rd_T74 Za Zh).f0) p1035 q1035;(try rw[← Nbq10.out] at Zp);(try rw[← Nbq14.out] at Zp);cases e1035;have hn1035_0:Vb.block≠Zw:=Nat.ne_of_lt (Nat.lt_of_lt_of_le (by have:=Yb _ _ Zp;first|rwa [add_block] at this|exact this) Vf.out);have hn1035_1:Vb.block≠Zw:=Nat.ne_of_lt (Nat.lt_of_lt_of_le (by have:=Yb _ _ Zp;first|rwa [add_block] at this|exact this) Vf.out);have hn1035_2:Vb.block≠Zw:=Nat.ne_of_lt (Nat.lt_of_lt_of_le (by have:=Yb _ _ Zp;first|rwa [add_block] at this|exact this) Vf.out);have hn1035_3:Vb.block≠Zw:=Nat.ne_of_lt (Nat.lt_of_lt_of_le (by have:=Yb _ _ Zp;first|rwa [add_block] at this|exact this) Vf.out);replace Zp:=(HB.out.cell (Yb w _ Zp)).trans Zp;replace Zp:=(cell_far (p:=⟨Zw,0,none⟩) (by first|(rw[add_block];exact hn1035_0)|(show (Addr.add _ _).block≠_;rw[add_block];exact hn1035_0)|exact hn1035_0) (.int .i64 ((rd_T74 Za Zh).f0))).trans Zp;replace Zp:=(cell_far (p:=⟨Zw,1,none⟩) (by first|(rw[add_block];exact hn1035_1)|(show (Addr.add _ _).block≠_;rw[add_block];exact hn1035_1)|exact hn1035_1) (.int .i64 ((rd_T74 Za Zh).f1))).trans Zp;replace Zp:=(cell_far (p:=⟨Zw,2,none⟩) (by first|(rw[add_block];exact hn1035_2)|(show (Addr.add _ _).block≠_;rw[add_block];exact hn1035_2)|exact hn1035_2) (.int .i64 ((rd_T74 Za Zh).f2))).trans Zp;replace Zp:=(cell_far (p:=⟨Zw,3,none⟩) (by first|(rw[add_block];exact hn1035_3)|(show (Addr.add _ _).block≠_;rw[add_block];exact hn1035_3)|exact hn1035_3) (.int .i64 ((rd_T74 Za Zh).f3))).trans Zp;clear hn1035_0;clear hn1035_1;clear hn1035_2;clear hn1035_3;replace p1035:=eq_true p1035;replace q1035:=eq_true q1035;have p1036:0≤(((rd_T74 Za Zh).f1):Int):=Yu (by first|(with_reducible assumption)|assumption);have q1036:((rd_T74 Za Zh).f1)<(l1.length:Int):=Yu (by first|(with_reducible assumption)|assumption);obtain⟨ad1036,e1036,Xf⟩:=Kd.at_bool HR1.out ((rd_T74 Za Zh).f1) p1036 q1036;(try rw[← Nbq10.out] at Xf);(try rw[← Nbq14.out] at Xf);obtain rfl:Vb=ad1036:=(by injection e1036);have hn1036_0:Vb.block≠Zw:=Nat.ne_of_lt (Nat.lt_of_lt_of_le (by have:=Yb _ _ Xf;first|rwa [add_block] at this|exact this) Vf.out);have hn1036_1:Vb.block≠Zw:=Nat.ne_of_lt (Nat.lt_of_lt_of_le (by have:=Yb _ _ Xf;first|rwa [add_block] at this|exact this) Vf.out);have hn1036_2:Vb.block≠Zw:=Nat.ne_of_lt (Nat.lt_of_lt_of_le (by have:=Yb _ _ Xf;first|rwa [add_block] at this|exact this) Vf.out);have hn1036_3:Vb.block≠Zw:=Nat.ne_of_lt (Nat.lt_of_lt_of_le (by have:=Yb _ _ Xf;first|rwa [add_block] at this|exact this) Vf.out);replace Xf:=(HB.out.cell (Yb w _ Xf)).trans Xf;replace Xf:=(cell_far (p:=⟨Zw,0,none⟩) (by first|(rw[add_block];exact hn1036_0)|(show (Addr.add _ _).block≠_;rw[add_block];exact hn1036_0)|exact hn1036_0) (.int .i64 ((rd_T74 Za Zh).f0))).trans Xf;replace Xf:=(cell_far (p:=⟨Zw,1,none⟩) (by first|(rw[add_block];exact hn1036_1)|(show (Addr.add _ _).block≠_;rw[add_block];exact hn1036_1)|exact hn1036_1) (.int .i64 ((rd_T74 Za Zh).f1))).trans Xf;replace Xf:=(cell_far (p:=⟨Zw,2,none⟩) (by first|(rw[add_block];exact hn1036_2)|(show (Addr.add _ _).block≠_;rw[add_block];exact hn1036_2)|exact hn1036_2) (.int .i64 ((rd_T74 Za Zh).f2))).trans Xf;replace Xf:=(cell_far (p:=⟨Zw,3,none⟩) (by first|(rw[add_block];exact hn1036_3)|(show (Addr.add _ _).block≠_;rw[add_block];exact hn1036_3)|exact hn1036_3) (.int .i64 ((rd_T74 Za Zh).f3))).trans Xf;clear hn1036_0;clear hn1036_1;clear hn1036_2;clear hn1036_3;replace p1036:=eq_true p1036;replace q1036:=eq_true q1036));go_roundg k1
   case measure=>have:=HK1.out;omega
   case rel=>exact⟨(wrap64 (Zt+((rd_T74 Za Zh).f2))),(wrap64 (Zh+1)),(by first|rfl|(simp;done)|(simp[*];done)),(by first|rfl|(simp;done)|(simp[*];done)),H',⟨by have:=HK1.out;omega⟩,⟨by(with_reducible repeat(first|refine Yl ?_ _|refine Ym ?_|refine Yj ?_ _));refine blk_far ?_ Xv.out _;(with_reducible repeat(first|refine Yl ?_ _|refine Ym ?_|refine Yj ?_ _));refine blk_far ?_ Xv.out _;(with_reducible repeat(first|refine Yl ?_ _|refine Ym ?_|refine Yj ?_ _));refine blk_far ?_ Xv.out _;(with_reducible repeat(first|refine Yl ?_ _|refine Ym ?_|refine Yj ?_ _));refine blk_far ?_ Xv.out _;(with_reducible repeat(first|refine Yl ?_ _|refine Ym ?_|refine Yj ?_ _));exact Wv.out⟩,⟨by repeat(first|(with_reducible first|exact HB.out|apply Ye|apply Yd|apply Yg|refine Yh ?_ GE1032.out|refine Yh ?_ GE1034.out)|exact HB.out)⟩⟩
end P
namespace P
attribute [local go_sem] max2_int min2_int max_two min_two max_three min_three max_four min_four
def mincut_Least.f (k:Nat) (Zc:Int) (Zb:Bool) (Za:List (S74)) (a1:Int) (a2:Int):Option (List Bool × Int × Int):=(static_Ends.f k Zc Zb Za a1 a2).bind fun t1038=>(if t1038=0 then((maxflow_Fill.f Zc Zb Za a1 a2).bind fun t1039=>((mincut_Behind.f Zc Zb Za t1039 a1).bind fun t1042=>((mincut_takes.f k Zc Zb Za t1042).bind fun t1045=>(some (t1042,t1045,0))))) else(some (([]:List Bool),0,t1038)))
def mincut_Least.T4:Bool × List (List Nat × List Nat):=(true,[([],[]),([],[]),([],[]),([],[]),([1,2,3],[1,2,3]),([],[]),([0,4,5,4],[0,4,5]),([6,6,0,1,2,3,4,5,6],[6])])
def mincut_Least.B4:List Nat:=[0,0,0,0,14,0,63,127]
theorem mincut_Least.tab4:rtab .any (opsOf Try.f79 4)=mincut_Least.T4:=by kernel_rfl
theorem mincut_Least.bits4:waitsOk mincut_Least.T4.2 mincut_Least.B4=true:=by kernel_rfl
set_option maxHeartbeats 8000000 in
set_option maxRecDepth 100000 in
theorem mincut_Least.calls (k:Nat) (Zc:Int) (Zb:Bool) (Ze:Option Addr) (Zd:Nat) (Za:List (S74)) (a1:Int) (a2:Int) (r1:List Bool) (r2:Int) (r3:Int) (w:World) (Zr:Kd.C k74 w Ze Za.length Za) (Zs:Za.length≤Zd) (h:mincut_Least.f k Zc Zb Za a1 a2=some (r1,r2,r3)):
  Calls Try.prog 79 #[.agg #[.int .i64 Zc, .bool Zb, .slice Ze Za.length Zd], .int .i64 a1, .int .i64 a2] w fun e w'=> ∃ v0_:Value,e= .returned (.tuple #[v0_, .int .i64 r2, .int .i64 r3])∧Kd.R Kd.bool 4 w' w.heap.size (fun _=>True) v0_ r1∧Below w.heap.size w w':=by
 have hu24:=Try.underlying24;have Zl:=Ya Zr;have Zv:=Ya Zs;clear Zr Zs;have HB:=Ya (Yo w.heap.size w);have H:((static_Ends.f k Zc Zb Za a1 a2).bind fun t1038=>(if t1038=0 then((maxflow_Fill.f Zc Zb Za a1 a2).bind fun t1039=>((mincut_Behind.f Zc Zb Za t1039 a1).bind fun t1042=>((mincut_takes.f k Zc Zb Za t1042).bind fun t1045=>(some (t1042,t1045,0))))) else(some (([]:List Bool),0,t1038))))=some (r1,r2,r3):=h;clear h;replace H:=Option.bind_eq_some_iff.mp H;obtain⟨t1038,A40,H⟩:=H;replace H:(if t1038=0 then((maxflow_Fill.f Zc Zb Za a1 a2).bind fun t1039=>((mincut_Behind.f Zc Zb Za t1039 a1).bind fun t1042=>((mincut_takes.f k Zc Zb Za t1042).bind fun t1045=>(some (t1042,t1045,0))))) else(some (([]:List Bool),0,t1038)))=some (r1,r2,r3):=H;have A4:=Ya A40;clear A40;by_cases c5:t1038=0
 rotate_left
 ·rw[Yy c5] at H
  have c5b0:(t1038 == 0)=false:=beq_eq_false_iff_ne.mpr c5;have c5b1:(t1038 != 0)=true:=bne_iff_ne.mpr c5;simp only[Option.some.injEq,Prod.mk.injEq] at H;obtain⟨rfl,rfl,rfl⟩:=H;go_enter Try.func79,Try.ntmps79;go_wp2_with (first|((with_reducible refine gate_dst (N:=3) rfl ?_);refine Yz ?hg (N:=3) ?hd (cs:= #[.int .i64 Zc, .bool Zb, .slice Ze Za.length Zd]) (t:=24) ?hr ?_;(case hd=>rfl);(case hg=>rfl);(case hr=>first|(go_simp;done)|(go_simp;rfl));intro Vg hg w19 Zf hb;have n0_:=Ya (Yk (by repeat(first|(with_reducible first|exact HB.out|apply Ye|apply Yd|apply Yg)|exact HB.out)) hb);have n1_:=Ya (Zf);have n2_:=Ya ((by rw[hg];exact(Yi (by repeat(first|(with_reducible first|exact HB.out|apply Ye|apply Yd|apply Yg)|exact HB.out))):w.heap.size≤Vg));have n3_:=Ya ((by rw[hg];exact(Yi (by repeat(first|(with_reducible first|exact HB.out|apply Ye|apply Yd|apply Yg)|exact HB.out))):w.heap.size≤Vg));clear HB;have HB:=n0_;have Xi:=n1_;have GW1037:=n2_;have GE1037:=n3_;clear n0_ n1_ n2_ n3_;clear hb Zf hg;have hcz20_0:w19.cell? ⟨Vg,0,none⟩=some (.int .i64 Zc):=(Yc Xi.out 0).trans rfl;have hcz20_1:w19.cell? ⟨Vg,1,none⟩=some (.bool Zb):=(Yc Xi.out 1).trans rfl;have hcz20_2:w19.cell? ⟨Vg,2,none⟩=some (.slice Ze Za.length Zd):=(Yc Xi.out 2).trans rfl;have hfz20_0:=Yf Xi.out 0;have hfz20_1:=Yf Xi.out 1;have hfz20_2:=Yf Xi.out 2)|((with_reducible refine gate_callee (f:=111) rfl ?_);refine goesL_ (some 12) rfl rfl Try.func111 (by kernel_rfl) rfl #[.agg #[.int .i64 Zc, .bool Zb, .slice Ze Za.length Zd], .int .i64 a1, .int .i64 a2] rfl (by(try simp only[List.map_toArray,List.map_cons,List.map_nil]);first|done|rfl|(simp only[List.length_drop,List.length_take];rfl)) ?_;(with_reducible refine(static_Ends.calls k Zc Zb _ _ Za a1 a2 t1038 _ ?side1 ?side2 A4.out).mono ?_);(case side1=>repeat(first|exact(Yt Zl.out HB.out)|(with_reducible refine Kd.C_alloc ?_ _)|(with_reducible refine Kd.C_drewN ?_ _)|(with_reducible refine Kd.C_drew ?_)));(case side2=>exact Zv.out);rintro e w21 ⟨rfl,hb⟩;refine⟨_,rfl,?_⟩;have n0_:=Ya (Yn (g:=Vg) (o:= .cells #[.int .i64 Zc, .bool Zb, .slice Ze Za.length Zd] 24 (0,0)) (by(with_reducible repeat(first|refine Yl ?_ _|refine Ym ?_|refine Yj ?_ _));exact Xi.out) hb);have n1_:=Ya (Yk (by repeat(first|(with_reducible first|exact HB.out|apply Ye|apply Yd|apply Yg|refine Yh ?_ GE1037.out)|exact HB.out)) hb);clear Xi;clear HB;have Xi:=n0_;have HB:=n1_;clear n0_ n1_;(try clear hb);(try clear hb2);(try clear hk);(try clear hi)));go_ret3;exact⟨_,by first|rfl|(simp[errW_none,errW_some]<;>rfl)|(simp[*,errW_none,errW_some]<;>rfl),by first|exact Kd.R_nil _ _ _ _ _|exact Kd.N_nil _ _ _ _ _|exact Kd.V_nil _ _ _ _ _|exact Kd.Q_nil _ _ _ _ _|exact Kd.S_nil _ _ _ _ _,by repeat(first|(with_reducible first|exact HB.out|apply Ye|apply Yd|apply Yg|refine Yh ?_ GE1037.out)|exact HB.out)⟩
 rw[Yx c5] at H;have c5b0:(t1038 == 0)=true:=beq_iff_eq.mpr c5;have c5b1:(t1038 != 0)=false:=bne_eq_false_iff_eq.mpr c5;clear c5;replace H:=Option.bind_eq_some_iff.mp H;obtain⟨t1039,A60,H⟩:=H;replace H:((mincut_Behind.f Zc Zb Za t1039 a1).bind fun t1042=>((mincut_takes.f k Zc Zb Za t1042).bind fun t1045=>(some (t1042,t1045,0))))=some (r1,r2,r3):=H;have A6:=Ya A60;clear A60;replace H:=Option.bind_eq_some_iff.mp H;obtain⟨t1042,A70,H⟩:=H;replace H:((mincut_takes.f k Zc Zb Za t1042).bind fun t1045=>(some (t1042,t1045,0)))=some (r1,r2,r3):=H;have A7:=Ya A70;clear A70;replace H:=Option.bind_eq_some_iff.mp H;obtain⟨t1045,A80,H⟩:=H;replace H:(some (t1042,t1045,0))=some (r1,r2,r3):=H;have A8:=Ya A80;clear A80;simp only[Option.some.injEq,Prod.mk.injEq] at H;obtain⟨rfl,rfl,rfl⟩:=H;go_enter Try.func79,Try.ntmps79;try go_wp2_with (first|((with_reducible refine gate_dst (N:=3) rfl ?_);refine Yz ?hg (N:=3) ?hd (cs:= #[.int .i64 Zc, .bool Zb, .slice Ze Za.length Zd]) (t:=24) ?hr ?_;(case hd=>rfl);(case hg=>rfl);(case hr=>first|(go_simp;done)|(go_simp;rfl));intro Vg hg w9 Zf hb;have n0_:=Ya (Yk (by repeat(first|(with_reducible first|exact HB.out|apply Ye|apply Yd|apply Yg)|exact HB.out)) hb);have n1_:=Ya (Zf);have n2_:=Ya ((by rw[hg];exact(Yi (by repeat(first|(with_reducible first|exact HB.out|apply Ye|apply Yd|apply Yg)|exact HB.out))):w.heap.size≤Vg));have n3_:=Ya ((by rw[hg];exact(Yi (by repeat(first|(with_reducible first|exact HB.out|apply Ye|apply Yd|apply Yg)|exact HB.out))):w.heap.size≤Vg));clear HB;have HB:=n0_;have Xi:=n1_;have GW1037:=n2_;have GE1037:=n3_;clear n0_ n1_ n2_ n3_;clear hb Zf hg;have Vs:w9.cell? ⟨Vg,0,none⟩=some (.int .i64 Zc):=(Yc Xi.out 0).trans rfl;have Vt:w9.cell? ⟨Vg,1,none⟩=some (.bool Zb):=(Yc Xi.out 1).trans rfl;have Jq:w9.cell? ⟨Vg,2,none⟩=some (.slice Ze Za.length Zd):=(Yc Xi.out 2).trans rfl;have Vu:=Yf Xi.out 0;have Vv:=Yf Xi.out 1;have Jr:=Yf Xi.out 2)|((with_reducible refine gate_callee (f:=111) rfl ?_);refine goesL_ (some 12) rfl rfl Try.func111 (by kernel_rfl) rfl #[.agg #[.int .i64 Zc, .bool Zb, .slice Ze Za.length Zd], .int .i64 a1, .int .i64 a2] rfl (by(try simp only[List.map_toArray,List.map_cons,List.map_nil]);first|done|rfl|(simp only[List.length_drop,List.length_take];rfl)) ?_;(with_reducible refine(static_Ends.calls k Zc Zb _ _ Za a1 a2 t1038 _ ?side1 ?side2 A4.out).mono ?_);(case side1=>repeat(first|exact(Yt Zl.out HB.out)|(with_reducible refine Kd.C_alloc ?_ _)|(with_reducible refine Kd.C_drewN ?_ _)|(with_reducible refine Kd.C_drew ?_)));(case side2=>exact Zv.out);rintro e w11 ⟨rfl,hb⟩;refine⟨_,rfl,?_⟩;have n0_:=Ya (Yn (g:=Vg) (o:= .cells #[.int .i64 Zc, .bool Zb, .slice Ze Za.length Zd] 24 (0,0)) (by(with_reducible repeat(first|refine Yl ?_ _|refine Ym ?_|refine Yj ?_ _));exact Xi.out) hb);have n1_:=Ya (Yk (by repeat(first|(with_reducible first|exact HB.out|apply Ye|apply Yd|apply Yg|refine Yh ?_ GE1037.out)|exact HB.out)) hb);clear Xi;clear HB;have Xi:=n0_;have HB:=n1_;clear n0_ n1_;(try clear hb);(try clear hb2);(try clear hk);(try clear hi)))
 have n0_:=Ya (Ym Xi.out);have n1_:=Ya (Yg HB.out);clear Xi;clear HB;have Xi:=n0_;have HB:=n1_;clear n0_ n1_;refine start_ (n:=8) (S:=fun w'=>w'.cell? ⟨Vg,0,none⟩=some (.int .i64 Zc)∧w'.cell? ⟨Vg,1,none⟩=some (.bool Zb)∧w'.cell? ⟨Vg,2,none⟩=some (.slice Ze Za.length Zd)) (ds:=[]) #[false,false,false,false,false,false,false,false] (by kernel_rfl) rfl rfl ⟨(Yc Xi.out 0).trans rfl,(Yc Xi.out 1).trans rfl,(Yc Xi.out 2).trans rfl⟩ (fun hHeld=> ?_);refine with_tabW mincut_Least.tab4 mincut_Least.bits4 (fun HT_ HW_=> ?_);generalize w11.drew=w12 at Xi HB hHeld ⊢;refine pure_ (i:=2) (N:=some 18) (v:= ?_) (a':= ?_) #[false,false,true,false,false,false,false,false] rfl rfl (any_of HT_.out (by kernel_rfl)) (fun _ _ _ h=>h) (Or.inl ⟨by rfl,?_⟩) ?_ ?_
 rotate_left
 ·intro w'
  go_simp
  with_reducible rfl
 rotate_left
 ·simp only[Act.put,List.setIfInBounds_toArray,List.set_cons_zero,List.set_cons_succ,i64_w,i32_w]
  rfl
 refine pure_ (i:=3) (N:=some 19) (v:= ?_) (a':= ?_) #[false,false,true,true,false,false,false,false] rfl rfl (any_of HT_.out (by kernel_rfl)) (fun _ _ _ h=>h) (Or.inl ⟨by rfl,?_⟩) ?_ ?_
 rotate_left
 ·intro w'
  go_simp
  with_reducible rfl
 rotate_left
 ·simp only[Act.put,List.setIfInBounds_toArray,List.set_cons_zero,List.set_cons_succ,i64_w,i32_w]
  rfl
 refine pure_ (i:=5) (N:=some 21) (v:= ?_) (a':= ?_) #[false,false,true,true,false,true,false,false] rfl rfl (any_of HT_.out (by kernel_rfl)) (fun _ _ _ h=>h) (Or.inl ⟨by rfl,?_⟩) ?_ ?_
 rotate_left
 ·intro w'
  go_simp
  with_reducible rfl
 rotate_left
 ·simp only[Act.put,List.setIfInBounds_toArray,List.set_cons_zero,List.set_cons_succ,i64_w,i32_w]
  rfl
 refine take_ (i:=0) (N:=some 16) (v:= ?_) (a':= ?_) #[true,false,true,true,false,true,false,false] rfl rfl (take_ofW HT_.out HW_.out (by kernel_rfl)) (fun _ _ _ h=>h) (Or.inl ⟨by rfl,?_⟩) hHeld ?_ ?_
 rotate_left
 ·rintro w' ⟨s0,s1,s2⟩
  go_simp
  with_reducible rfl
 rotate_left
 ·simp only[Act.put,List.setIfInBounds_toArray,List.set_cons_zero,List.set_cons_succ,i64_w,i32_w]
  rfl
 refine take_ (i:=1) (N:=some 17) (v:= ?_) (a':= ?_) #[true,true,true,true,false,true,false,false] rfl rfl (take_ofW HT_.out HW_.out (by kernel_rfl)) (fun _ _ _ h=>h) (Or.inl ⟨by rfl,?_⟩) hHeld ?_ ?_
 rotate_left
 ·rintro w' ⟨s0,s1,s2⟩
  go_simp
  with_reducible rfl
 rotate_left
 ·simp only[Act.put,List.setIfInBounds_toArray,List.set_cons_zero,List.set_cons_succ,i64_w,i32_w]
  rfl
 refine one_ (i:=4) (N:=some 20) #[true,true,true,true,true,true,false,false] rfl rfl (one_of HT_.out (by kernel_rfl)) (by decide) (fun K hK=> ?_);refine goes_ Try.func121 (by kernel_rfl) rfl #[.agg #[.int .i64 Zc, .bool Zb, .slice Ze Za.length Zd], .int .i64 a1, .int .i64 a2] (by rfl) rfl rfl (by(try simp only[List.map_toArray,List.map_cons,List.map_nil]);first|done|rfl|(simp only[List.length_drop,List.length_take];rfl)) ?_
 with_reducible refine(maxflow_Fill.calls Zc Zb _ _ Za a1 a2 t1039 _ ?side1 ?side2 A6.out).mono ?_
 (case side1=>repeat(first|exact(Yt Zl.out HB.out)|(with_reducible refine Kd.C_alloc ?_ _)|(with_reducible refine Kd.C_drewN ?_ _)|(with_reducible refine Kd.C_drew ?_)))
 (case side2=>exact Zv.out)
 rintro e w13 ⟨v1040,rfl,ho0,hb⟩;refine⟨_,rfl,?_⟩;have n0_:=Ya (Kd.R_lower ho0 (Yi (by repeat(first|(with_reducible first|exact HB.out|apply Ye|apply Yd|apply Yg|refine Yh ?_ GE1037.out)|exact HB.out))));have n1_:=Ya (Yn (g:=Vg) (o:= .cells #[.int .i64 Zc, .bool Zb, .slice Ze Za.length Zd] 24 (0,0)) (by(with_reducible repeat(first|refine Yl ?_ _|refine Ym ?_|refine Yj ?_ _));exact Xi.out) hb);have n2_:=Ya (Yk (by repeat(first|(with_reducible first|exact HB.out|apply Ye|apply Yd|apply Yg|refine Yh ?_ GE1037.out)|exact HB.out)) hb);clear Xi;clear HB;have HO1041:=n0_;have Xi:=n1_;have HB:=n2_;clear n0_ n1_ n2_
 (try clear hb)
 (try clear hb2)
 (try clear hk)
 (try clear hi)
 (try clear ho0)
 obtain⟨Ao14,co14,eo14⟩:=Kd.R_slice HO1041.out
 (first|subst eo14|(injection eo14 with f1_ f2_ f3_;have f4_:=f1_.symm;have f5_:=f3_.symm;clear f1_ f2_ f3_;subst f4_;subst f5_))
 refine hK.out _ _ ⟨(Yc Xi.out 0).trans rfl,(Yc Xi.out 1).trans rfl,(Yc Xi.out 2).trans rfl⟩ (fun hHeld=> ?_);clear hK K;refine norm_ (a':= ?_) ?_ ?_
 rotate_left
 ·show Act.put _ (some 20) _=_
  simp only[Act.put,List.setIfInBounds_toArray,List.set_cons_zero,List.set_cons_succ,i64_w,i32_w];rfl
 refine one_ (i:=6) (N:=some 22) #[true,true,true,true,true,true,true,false] rfl rfl (one_of HT_.out (by kernel_rfl)) (by decide) (fun K hK=> ?_);refine goes_ Try.func124 (by kernel_rfl) rfl #[.agg #[.int .i64 Zc, .bool Zb, .slice Ze Za.length Zd], .slice Ao14 t1039.length co14, .int .i64 a1] (by rfl) rfl rfl (by(try simp only[List.map_toArray,List.map_cons,List.map_nil]);first|done|rfl|(simp only[List.length_drop,List.length_take];rfl)) ?_
 with_reducible refine(mincut_Behind.calls Zc Zb _ _ Za _ _ t1039 a1 t1042 _ ?side1 ?side2 ?side3 ?side4 A7.out).mono ?_
 (case side1=>repeat(first|exact(Yt Zl.out HB.out)|(with_reducible refine Kd.C_alloc ?_ _)|(with_reducible refine Kd.C_drewN ?_ _)|(with_reducible refine Kd.C_drew ?_)))
 (case side2=>exact Zv.out)
 (case side3=>repeat(first|exact(Kd.R_reads' HO1041.out).2.2|(with_reducible refine Kd.C_alloc ?_ _)|(with_reducible refine Kd.C_drewN ?_ _)|(with_reducible refine Kd.C_drew ?_)))
 (case side4=>exact(Kd.R_reads' HO1041.out).2.1)
 rintro e w15 ⟨v1043,rfl,ho0,hb⟩;refine⟨_,rfl,?_⟩;have n0_:=Ya (Ys (by(with_reducible repeat(first|apply Yr|apply Yq|apply Yp));exact HO1041.out) hb);have n1_:=Ya (Kd.R_lower ho0 (Yi (by repeat(first|(with_reducible first|exact HB.out|apply Ye|apply Yd|apply Yg|refine Yh ?_ GE1037.out)|exact HB.out))));have n2_:=Ya (Yn (g:=Vg) (o:= .cells #[.int .i64 Zc, .bool Zb, .slice Ze Za.length Zd] 24 (0,0)) (by(with_reducible repeat(first|refine Yl ?_ _|refine Ym ?_|refine Yj ?_ _));exact Xi.out) hb);have n3_:=Ya (Yk (by repeat(first|(with_reducible first|exact HB.out|apply Ye|apply Yd|apply Yg|refine Yh ?_ GE1037.out)|exact HB.out)) hb);clear HO1041;clear Xi;clear HB;have HO1041:=n0_;have HO1044:=n1_;have Xi:=n2_;have HB:=n3_;clear n0_ n1_ n2_ n3_
 (try clear hb)
 (try clear hb2)
 (try clear hk)
 (try clear hi)
 (try clear ho0)
 refine hK.out _ _ ⟨(Yc Xi.out 0).trans rfl,(Yc Xi.out 1).trans rfl,(Yc Xi.out 2).trans rfl⟩ (fun hHeld=> ?_);clear hK K;refine norm_ (a':= ?_) ?_ ?_
 rotate_left
 ·show Act.put _ (some 22) _=_
  simp only[Act.put,List.setIfInBounds_toArray,List.set_cons_zero,List.set_cons_succ,i64_w,i32_w];rfl
 refine pure_ (i:=7) (N:=some 6) (v:= ?_) (a':= ?_) #[true,true,true,true,true,true,true,true] rfl rfl (any_of HT_.out (by kernel_rfl)) (fun _ _ _ h=>h) (Or.inl ⟨by rfl,?_⟩) ?_ ?_
 rotate_left
 ·intro w'
  go_simp
  with_reducible rfl
 rotate_left
 ·simp only[Act.put,List.setIfInBounds_toArray,List.set_cons_zero,List.set_cons_succ,i64_w,i32_w]
  rfl
 refine done_ (done_of HT_.out (by kernel_rfl)) ?_;have hcz16_0:w15.cell? ⟨Vg,0,none⟩=some (.int .i64 Zc):=(Yc Xi.out 0).trans rfl;have hcz16_1:w15.cell? ⟨Vg,1,none⟩=some (.bool Zb):=(Yc Xi.out 1).trans rfl;have hcz16_2:w15.cell? ⟨Vg,2,none⟩=some (.slice Ze Za.length Zd):=(Yc Xi.out 2).trans rfl;have hfz16_0:=Yf Xi.out 0;have hfz16_1:=Yf Xi.out 1;have hfz16_2:=Yf Xi.out 2;obtain⟨Ao17,co17,eo17⟩:=Kd.R_slice HO1044.out;subst eo17;try go_wp2_with (first|((with_reducible refine gate_callee (f:=125) rfl ?_);refine goesL_ (some 26) rfl rfl Try.func125 (by kernel_rfl) rfl #[.agg #[.int .i64 Zc, .bool Zb, .slice Ze Za.length Zd], .slice Ao17 t1042.length co17] rfl (by(try simp only[List.map_toArray,List.map_cons,List.map_nil]);first|done|rfl|(simp only[List.length_drop,List.length_take];rfl)) ?_;(with_reducible refine(mincut_takes.calls k Zc Zb _ _ Za _ _ t1042 t1045 _ ?side1 ?side2 ?side3 ?side4 A8.out).mono ?_);(case side1=>repeat(first|exact(Yt Zl.out HB.out)|(with_reducible refine Kd.C_alloc ?_ _)|(with_reducible refine Kd.C_drewN ?_ _)|(with_reducible refine Kd.C_drew ?_)));(case side2=>exact Zv.out);(case side3=>repeat(first|exact(Kd.R_reads' HO1044.out).2.2|(with_reducible refine Kd.C_alloc ?_ _)|(with_reducible refine Kd.C_drewN ?_ _)|(with_reducible refine Kd.C_drew ?_)));(case side4=>exact(Kd.R_reads' HO1044.out).2.1);rintro e w18 ⟨rfl,hb⟩;refine⟨_,rfl,?_⟩;have n0_:=Ya (Ys (by(with_reducible repeat(first|apply Yr|apply Yq|apply Yp));exact HO1041.out) hb);have n1_:=Ya (Ys (by(with_reducible repeat(first|apply Yr|apply Yq|apply Yp));exact HO1044.out) hb);have n2_:=Ya (Yn (g:=Vg) (o:= .cells #[.int .i64 Zc, .bool Zb, .slice Ze Za.length Zd] 24 (0,0)) (by(with_reducible repeat(first|refine Yl ?_ _|refine Ym ?_|refine Yj ?_ _));exact Xi.out) hb);have n3_:=Ya (Yk (by repeat(first|(with_reducible first|exact HB.out|apply Ye|apply Yd|apply Yg|refine Yh ?_ GE1037.out)|exact HB.out)) hb);clear HO1041;clear HO1044;clear Xi;clear HB;have HO1041:=n0_;have HO1044:=n1_;have Xi:=n2_;have HB:=n3_;clear n0_ n1_ n2_ n3_;(try clear hb);(try clear hb2);(try clear hk);(try clear hi)))
 go_ret3;exact⟨_,by first|rfl|(simp[errW_none,errW_some]<;>rfl)|(simp[*,errW_none,errW_some]<;>rfl),by(with_reducible repeat(first|apply Yr|apply Yq|apply Yp));exact HO1044.out,by repeat(first|(with_reducible first|exact HB.out|apply Ye|apply Yd|apply Yg|refine Yh ?_ GE1037.out)|exact HB.out)⟩
end P
namespace P
attribute [local go_sem] max2_int min2_int max_two min_two max_three min_three max_four min_four
def ebbtideref08_Levels.l0:Nat→Int→List (S38)→List Int→Int→Int→Bool→List (S74)→Option (List Int × Int)
 |0,_,_,_,_,_,_,_=>none
 |k+1,x2,x9,x10,x11,x475000,x475001,x475002=>if x11<x475000 then((ebbtideref08_Way.f x475000 x475001 x475002 x2 x11 x9).bind fun bt480=>(if bt480.2=true then(if x10.length<17592186044416 then(ebbtideref08_Levels.l0 k x2 x9 (x10 ++ [(bt480.1.length:Int)]) (wrap64 (x11+1)) x475000 x475001 x475002) else(none)) else(if x10.length<17592186044416 then(ebbtideref08_Levels.l0 k x2 x9 (x10 ++ [(-1)]) (wrap64 (x11+1)) x475000 x475001 x475002) else(none)))) else(some (x10,0))
def ebbtideref08_Levels.f (k:Nat) (Zc:Int) (Zb:Bool) (Za:List (S74)) (l1:List Int) (a2:Int):Option (List Int × Int):=(ebbtideref07_Asked.f k Zc Zb Za l1).bind fun t475=>(if t475=0 then((ebbtideref06_Node.f Zc Zb Za a2).bind fun t476=>(if t476=true then((ebbtideref07_Steps.f k Zc Zb Za l1).bind fun t477=>(ebbtideref08_Levels.l0 k a2 t477 ([]:List Int) 0 Zc Zb Za)) else(some (([]:List Int),1)))) else(some (([]:List Int),t475)))
set_option maxHeartbeats 8000000 in
set_option maxRecDepth 100000 in
theorem ebbtideref08_Levels.calls (k:Nat) (Zc:Int) (Zb:Bool) (Ze:Option Addr) (Zd:Nat) (Za:List (S74)) (A1:Option Addr) (c1:Nat) (l1:List Int) (a2:Int) (r1:List Int) (r2:Int) (w:World) (Zr:Kd.C k74 w Ze Za.length Za) (Zs:Za.length≤Zd) (hr1:Kd.C (Kd.int .i64) w A1 l1.length l1) (hc1:l1.length≤c1) (h:ebbtideref08_Levels.f k Zc Zb Za l1 a2=some (r1,r2)):
  Calls Try.prog 54 #[.agg #[.int .i64 Zc, .bool Zb, .slice Ze Za.length Zd], .slice A1 l1.length c1, .int .i64 a2] w fun e w'=> ∃ v0_:Value,e= .returned (.tuple #[v0_, .int .i64 r2])∧Kd.R (Kd.int .i64) 3 w' w.heap.size (fun _=>True) v0_ r1∧Below w.heap.size w w':=by
 have hu24:=Try.underlying24;have Zl:=Ya Zr;have Zv:=Ya Zs;clear Zr Zs;have HR1:=Ya hr1;have HC1:=Ya hc1;clear hr1 hc1;have HB:=Ya (Yo w.heap.size w);have H:((ebbtideref07_Asked.f k Zc Zb Za l1).bind fun t475=>(if t475=0 then((ebbtideref06_Node.f Zc Zb Za a2).bind fun t476=>(if t476=true then((ebbtideref07_Steps.f k Zc Zb Za l1).bind fun t477=>(ebbtideref08_Levels.l0 k a2 t477 ([]:List Int) 0 Zc Zb Za)) else(some (([]:List Int),1)))) else(some (([]:List Int),t475))))=some (r1,r2):=h;clear h;replace H:=Option.bind_eq_some_iff.mp H;obtain⟨t475,A40,H⟩:=H;replace H:(if t475=0 then((ebbtideref06_Node.f Zc Zb Za a2).bind fun t476=>(if t476=true then((ebbtideref07_Steps.f k Zc Zb Za l1).bind fun t477=>(ebbtideref08_Levels.l0 k a2 t477 ([]:List Int) 0 Zc Zb Za)) else(some (([]:List Int),1)))) else(some (([]:List Int),t475)))=some (r1,r2):=H;have A4:=Ya A40;clear A40;by_cases c5:t475=0
 rotate_left
 ·rw[Yy c5] at H
  have c5b0:(t475 == 0)=false:=beq_eq_false_iff_ne.mpr c5;have c5b1:(t475 != 0)=true:=bne_iff_ne.mpr c5;simp only[Option.some.injEq,Prod.mk.injEq] at H;obtain⟨rfl,rfl⟩:=H;go_enter Try.func54,Try.ntmps54;go_wp2_with (first|((with_reducible refine gate_dst (N:=3) rfl ?_);refine Yz ?hg (N:=3) ?hd (cs:= #[.int .i64 Zc, .bool Zb, .slice Ze Za.length Zd]) (t:=24) ?hr ?_;(case hd=>rfl);(case hg=>rfl);(case hr=>first|(go_simp;done)|(go_simp;rfl));intro Xz hg w36 Zf hb;have n0_:=Ya (Yk (by repeat(first|(with_reducible first|exact HB.out|apply Ye|apply Yd|apply Yg)|exact HB.out)) hb);have n1_:=Ya (Zf);have n2_:=Ya ((by rw[hg];exact(Yi (by repeat(first|(with_reducible first|exact HB.out|apply Ye|apply Yd|apply Yg)|exact HB.out))):w.heap.size≤Xz));have n3_:=Ya ((by rw[hg];exact(Yi (by repeat(first|(with_reducible first|exact HB.out|apply Ye|apply Yd|apply Yg)|exact HB.out))):w.heap.size≤Xz));clear HB;have HB:=n0_;have Zu:=n1_;have GW474:=n2_;have Jj:=n3_;clear n0_ n1_ n2_ n3_;clear hb Zf hg;have hcz37_0:w36.cell? ⟨Xz,0,none⟩=some (.int .i64 Zc):=(Yc Zu.out 0).trans rfl;have hcz37_1:w36.cell? ⟨Xz,1,none⟩=some (.bool Zb):=(Yc Zu.out 1).trans rfl;have hcz37_2:w36.cell? ⟨Xz,2,none⟩=some (.slice Ze Za.length Zd):=(Yc Zu.out 2).trans rfl;have hfz37_0:=Yf Zu.out 0;have hfz37_1:=Yf Zu.out 1;have hfz37_2:=Yf Zu.out 2)|((with_reducible refine gate_callee (f:=98) rfl ?_);refine goesL_ (some 16) rfl rfl Try.func98 (by kernel_rfl) rfl #[.agg #[.int .i64 Zc, .bool Zb, .slice Ze Za.length Zd], .slice A1 l1.length c1] rfl (by(try simp only[List.map_toArray,List.map_cons,List.map_nil]);first|done|rfl|(simp only[List.length_drop,List.length_take];rfl)) ?_;(with_reducible refine(ebbtideref07_Asked.calls k Zc Zb _ _ Za _ _ l1 t475 _ ?side1 ?side2 ?side3 ?side4 A4.out).mono ?_);(case side1=>repeat(first|exact(Yt Zl.out HB.out)|(with_reducible refine Kd.C_alloc ?_ _)|(with_reducible refine Kd.C_drewN ?_ _)|(with_reducible refine Kd.C_drew ?_)));(case side2=>exact Zv.out);(case side3=>repeat(first|exact(Yt HR1.out HB.out)|(with_reducible refine Kd.C_alloc ?_ _)|(with_reducible refine Kd.C_drewN ?_ _)|(with_reducible refine Kd.C_drew ?_)));(case side4=>exact HC1.out);rintro e w38 ⟨rfl,hb⟩;refine⟨_,rfl,?_⟩;have n0_:=Ya (Yn (g:=Xz) (o:= .cells #[.int .i64 Zc, .bool Zb, .slice Ze Za.length Zd] 24 (0,0)) (by(with_reducible repeat(first|refine Yl ?_ _|refine Ym ?_|refine Yj ?_ _));exact Zu.out) hb);have n1_:=Ya (Yk (by repeat(first|(with_reducible first|exact HB.out|apply Ye|apply Yd|apply Yg|refine Yh ?_ Jj.out)|exact HB.out)) hb);clear Zu;clear HB;have Zu:=n0_;have HB:=n1_;clear n0_ n1_;(try clear hb);(try clear hb2);(try clear hk);(try clear hi)));go_ret2;exact⟨_,by first|rfl|(simp[errW_none,errW_some]<;>rfl)|(simp[*,errW_none,errW_some]<;>rfl),by first|exact Kd.R_nil _ _ _ _ _|exact Kd.N_nil _ _ _ _ _|exact Kd.V_nil _ _ _ _ _|exact Kd.Q_nil _ _ _ _ _|exact Kd.S_nil _ _ _ _ _,by repeat(first|(with_reducible first|exact HB.out|apply Ye|apply Yd|apply Yg|refine Yh ?_ Jj.out)|exact HB.out)⟩
 rw[Yx c5] at H;have c5b0:(t475 == 0)=true:=beq_iff_eq.mpr c5;have c5b1:(t475 != 0)=false:=bne_eq_false_iff_eq.mpr c5;clear c5;replace H:=Option.bind_eq_some_iff.mp H;obtain⟨t476,A60,H⟩:=H;replace H:(if t476=true then((ebbtideref07_Steps.f k Zc Zb Za l1).bind fun t477=>(ebbtideref08_Levels.l0 k a2 t477 ([]:List Int) 0 Zc Zb Za)) else(some (([]:List Int),1)))=some (r1,r2):=H;have A6:=Ya A60;clear A60;by_cases c7:t476=true
 rotate_left
 ·replace c7:=Bool.eq_false_iff.mpr c7
  subst c7;have H1:(some (([]:List Int),1))=some (r1,r2):=by rw[Yy (show ¬ (false=true) by decide)] at H;exact H
  clear H;have H:=H1;clear H1;simp only[Option.some.injEq,Prod.mk.injEq] at H;obtain⟨rfl,rfl⟩:=H;go_enter Try.func54,Try.ntmps54;go_wp2_with (first|((with_reducible refine gate_dst (N:=3) rfl ?_);refine Yz ?hg (N:=3) ?hd (cs:= #[.int .i64 Zc, .bool Zb, .slice Ze Za.length Zd]) (t:=24) ?hr ?_;(case hd=>rfl);(case hg=>rfl);(case hr=>first|(go_simp;done)|(go_simp;rfl));intro Xz hg w31 Zf hb;have n0_:=Ya (Yk (by repeat(first|(with_reducible first|exact HB.out|apply Ye|apply Yd|apply Yg)|exact HB.out)) hb);have n1_:=Ya (Zf);have n2_:=Ya ((by rw[hg];exact(Yi (by repeat(first|(with_reducible first|exact HB.out|apply Ye|apply Yd|apply Yg)|exact HB.out))):w.heap.size≤Xz));have n3_:=Ya ((by rw[hg];exact(Yi (by repeat(first|(with_reducible first|exact HB.out|apply Ye|apply Yd|apply Yg)|exact HB.out))):w.heap.size≤Xz));clear HB;have HB:=n0_;have Zu:=n1_;have GW474:=n2_;have Jj:=n3_;clear n0_ n1_ n2_ n3_;clear hb Zf hg;have hcz32_0:w31.cell? ⟨Xz,0,none⟩=some (.int .i64 Zc):=(Yc Zu.out 0).trans rfl;have hcz32_1:w31.cell? ⟨Xz,1,none⟩=some (.bool Zb):=(Yc Zu.out 1).trans rfl;have hcz32_2:w31.cell? ⟨Xz,2,none⟩=some (.slice Ze Za.length Zd):=(Yc Zu.out 2).trans rfl;have hfz32_0:=Yf Zu.out 0;have hfz32_1:=Yf Zu.out 1;have hfz32_2:=Yf Zu.out 2)|((with_reducible refine gate_callee (f:=98) rfl ?_);refine goesL_ (some 16) rfl rfl Try.func98 (by kernel_rfl) rfl #[.agg #[.int .i64 Zc, .bool Zb, .slice Ze Za.length Zd], .slice A1 l1.length c1] rfl (by(try simp only[List.map_toArray,List.map_cons,List.map_nil]);first|done|rfl|(simp only[List.length_drop,List.length_take];rfl)) ?_;(with_reducible refine(ebbtideref07_Asked.calls k Zc Zb _ _ Za _ _ l1 t475 _ ?side1 ?side2 ?side3 ?side4 A4.out).mono ?_);(case side1=>repeat(first|exact(Yt Zl.out HB.out)|(with_reducible refine Kd.C_alloc ?_ _)|(with_reducible refine Kd.C_drewN ?_ _)|(with_reducible refine Kd.C_drew ?_)));(case side2=>exact Zv.out);(case side3=>repeat(first|exact(Yt HR1.out HB.out)|(with_reducible refine Kd.C_alloc ?_ _)|(with_reducible refine Kd.C_drewN ?_ _)|(with_reducible refine Kd.C_drew ?_)));(case side4=>exact HC1.out);rintro e w33 ⟨rfl,hb⟩;refine⟨_,rfl,?_⟩;have n0_:=Ya (Yn (g:=Xz) (o:= .cells #[.int .i64 Zc, .bool Zb, .slice Ze Za.length Zd] 24 (0,0)) (by(with_reducible repeat(first|refine Yl ?_ _|refine Ym ?_|refine Yj ?_ _));exact Zu.out) hb);have n1_:=Ya (Yk (by repeat(first|(with_reducible first|exact HB.out|apply Ye|apply Yd|apply Yg|refine Yh ?_ Jj.out)|exact HB.out)) hb);clear Zu;clear HB;have Zu:=n0_;have HB:=n1_;clear n0_ n1_;(try clear hb);(try clear hb2);(try clear hk);(try clear hi);have hcz34_0:w33.cell? ⟨Xz,0,none⟩=some (.int .i64 Zc):=(Yc Zu.out 0).trans rfl;have hcz34_1:w33.cell? ⟨Xz,1,none⟩=some (.bool Zb):=(Yc Zu.out 1).trans rfl;have hcz34_2:w33.cell? ⟨Xz,2,none⟩=some (.slice Ze Za.length Zd):=(Yc Zu.out 2).trans rfl;have hfz34_0:=Yf Zu.out 0;have hfz34_1:=Yf Zu.out 1;have hfz34_2:=Yf Zu.out 2)|((with_reducible refine gate_callee (f:=99) rfl ?_);refine goesL_ (some 22) rfl rfl Try.func99 (by kernel_rfl) rfl #[.agg #[.int .i64 Zc, .bool Zb, .slice Ze Za.length Zd], .int .i64 a2] rfl (by(try simp only[List.map_toArray,List.map_cons,List.map_nil]);first|done|rfl|(simp only[List.length_drop,List.length_take];rfl)) ?_;(with_reducible refine(ebbtideref06_Node.calls Zc Zb _ _ Za a2 false _ ?side1 ?side2 A6.out).mono ?_);(case side1=>repeat(first|exact(Yt Zl.out HB.out)|(with_reducible refine Kd.C_alloc ?_ _)|(with_reducible refine Kd.C_drewN ?_ _)|(with_reducible refine Kd.C_drew ?_)));(case side2=>exact Zv.out);rintro e w35 ⟨rfl,hb⟩;refine⟨_,rfl,?_⟩;have n0_:=Ya (Yn (g:=Xz) (o:= .cells #[.int .i64 Zc, .bool Zb, .slice Ze Za.length Zd] 24 (0,0)) (by(with_reducible repeat(first|refine Yl ?_ _|refine Ym ?_|refine Yj ?_ _));exact Zu.out) hb);have n1_:=Ya (Yk (by repeat(first|(with_reducible first|exact HB.out|apply Ye|apply Yd|apply Yg|refine Yh ?_ Jj.out)|exact HB.out)) hb);clear Zu;clear HB;have Zu:=n0_;have HB:=n1_;clear n0_ n1_;(try clear hb);(try clear hb2);(try clear hk);(try clear hi)));go_ret2;exact⟨_,by first|rfl|(simp[errW_none,errW_some]<;>rfl)|(simp[*,errW_none,errW_some]<;>rfl),by first|exact Kd.R_nil _ _ _ _ _|exact Kd.N_nil _ _ _ _ _|exact Kd.V_nil _ _ _ _ _|exact Kd.Q_nil _ _ _ _ _|exact Kd.S_nil _ _ _ _ _,by repeat(first|(with_reducible first|exact HB.out|apply Ye|apply Yd|apply Yg|refine Yh ?_ Jj.out)|exact HB.out)⟩
 subst c7;have H1:((ebbtideref07_Steps.f k Zc Zb Za l1).bind fun t477=>(ebbtideref08_Levels.l0 k a2 t477 ([]:List Int) 0 Zc Zb Za))=some (r1,r2):=by first|(rw[Yx rfl] at H;exact H)|(rw[Yx trivial] at H;exact H)
 clear H;have H:=H1;clear H1;replace H:=Option.bind_eq_some_iff.mp H;obtain⟨t477,A80,H⟩:=H;replace H:(ebbtideref08_Levels.l0 k a2 t477 ([]:List Int) 0 Zc Zb Za)=some (r1,r2):=H;have A8:=Ya A80;clear A80;have H':=Ya H;clear H;go_enter Try.func54,Try.ntmps54;go_wp2_with (first|((with_reducible refine gate_dst (N:=3) rfl ?_);refine Yz ?hg (N:=3) ?hd (cs:= #[.int .i64 Zc, .bool Zb, .slice Ze Za.length Zd]) (t:=24) ?hr ?_;(case hd=>rfl);(case hg=>rfl);(case hr=>first|(go_simp;done)|(go_simp;rfl));intro Xz hg w9 Zf hb;have n0_:=Ya (Yk (by repeat(first|(with_reducible first|exact HB.out|apply Ye|apply Yd|apply Yg)|exact HB.out)) hb);have n1_:=Ya (Zf);have n2_:=Ya ((by rw[hg];exact(Yi (by repeat(first|(with_reducible first|exact HB.out|apply Ye|apply Yd|apply Yg)|exact HB.out))):w.heap.size≤Xz));have n3_:=Ya ((by rw[hg];exact(Yi (by repeat(first|(with_reducible first|exact HB.out|apply Ye|apply Yd|apply Yg)|exact HB.out))):w.heap.size≤Xz));clear HB;have HB:=n0_;have Zu:=n1_;have GW474:=n2_;have Jj:=n3_;clear n0_ n1_ n2_ n3_;clear hb Zf hg;have Vs:w9.cell? ⟨Xz,0,none⟩=some (.int .i64 Zc):=(Yc Zu.out 0).trans rfl;have Vt:w9.cell? ⟨Xz,1,none⟩=some (.bool Zb):=(Yc Zu.out 1).trans rfl;have Jq:w9.cell? ⟨Xz,2,none⟩=some (.slice Ze Za.length Zd):=(Yc Zu.out 2).trans rfl;have Vu:=Yf Zu.out 0;have Vv:=Yf Zu.out 1;have Jr:=Yf Zu.out 2)|((with_reducible refine gate_callee (f:=98) rfl ?_);refine goesL_ (some 16) rfl rfl Try.func98 (by kernel_rfl) rfl #[.agg #[.int .i64 Zc, .bool Zb, .slice Ze Za.length Zd], .slice A1 l1.length c1] rfl (by(try simp only[List.map_toArray,List.map_cons,List.map_nil]);first|done|rfl|(simp only[List.length_drop,List.length_take];rfl)) ?_;(with_reducible refine(ebbtideref07_Asked.calls k Zc Zb _ _ Za _ _ l1 t475 _ ?side1 ?side2 ?side3 ?side4 A4.out).mono ?_);(case side1=>repeat(first|exact(Yt Zl.out HB.out)|(with_reducible refine Kd.C_alloc ?_ _)|(with_reducible refine Kd.C_drewN ?_ _)|(with_reducible refine Kd.C_drew ?_)));(case side2=>exact Zv.out);(case side3=>repeat(first|exact(Yt HR1.out HB.out)|(with_reducible refine Kd.C_alloc ?_ _)|(with_reducible refine Kd.C_drewN ?_ _)|(with_reducible refine Kd.C_drew ?_)));(case side4=>exact HC1.out);rintro e w11 ⟨rfl,hb⟩;refine⟨_,rfl,?_⟩;have n0_:=Ya (Yn (g:=Xz) (o:= .cells #[.int .i64 Zc, .bool Zb, .slice Ze Za.length Zd] 24 (0,0)) (by(with_reducible repeat(first|refine Yl ?_ _|refine Ym ?_|refine Yj ?_ _));exact Zu.out) hb);have n1_:=Ya (Yk (by repeat(first|(with_reducible first|exact HB.out|apply Ye|apply Yd|apply Yg|refine Yh ?_ Jj.out)|exact HB.out)) hb);clear Zu;clear HB;have Zu:=n0_;have HB:=n1_;clear n0_ n1_;(try clear hb);(try clear hb2);(try clear hk);(try clear hi);have hcz12_0:w11.cell? ⟨Xz,0,none⟩=some (.int .i64 Zc):=(Yc Zu.out 0).trans rfl;have hcz12_1:w11.cell? ⟨Xz,1,none⟩=some (.bool Zb):=(Yc Zu.out 1).trans rfl;have hcz12_2:w11.cell? ⟨Xz,2,none⟩=some (.slice Ze Za.length Zd):=(Yc Zu.out 2).trans rfl;have hfz12_0:=Yf Zu.out 0;have hfz12_1:=Yf Zu.out 1;have hfz12_2:=Yf Zu.out 2)|((with_reducible refine gate_callee (f:=99) rfl ?_);refine goesL_ (some 22) rfl rfl Try.func99 (by kernel_rfl) rfl #[.agg #[.int .i64 Zc, .bool Zb, .slice Ze Za.length Zd], .int .i64 a2] rfl (by(try simp only[List.map_toArray,List.map_cons,List.map_nil]);first|done|rfl|(simp only[List.length_drop,List.length_take];rfl)) ?_;(with_reducible refine(ebbtideref06_Node.calls Zc Zb _ _ Za a2 true _ ?side1 ?side2 A6.out).mono ?_);(case side1=>repeat(first|exact(Yt Zl.out HB.out)|(with_reducible refine Kd.C_alloc ?_ _)|(with_reducible refine Kd.C_drewN ?_ _)|(with_reducible refine Kd.C_drew ?_)));(case side2=>exact Zv.out);rintro e w13 ⟨rfl,hb⟩;refine⟨_,rfl,?_⟩;have n0_:=Ya (Yn (g:=Xz) (o:= .cells #[.int .i64 Zc, .bool Zb, .slice Ze Za.length Zd] 24 (0,0)) (by(with_reducible repeat(first|refine Yl ?_ _|refine Ym ?_|refine Yj ?_ _));exact Zu.out) hb);have n1_:=Ya (Yk (by repeat(first|(with_reducible first|exact HB.out|apply Ye|apply Yd|apply Yg|refine Yh ?_ Jj.out)|exact HB.out)) hb);clear Zu;clear HB;have Zu:=n0_;have HB:=n1_;clear n0_ n1_;(try clear hb);(try clear hb2);(try clear hk);(try clear hi);have Ug:w13.cell? ⟨Xz,0,none⟩=some (.int .i64 Zc):=(Yc Zu.out 0).trans rfl;have Uh:w13.cell? ⟨Xz,1,none⟩=some (.bool Zb):=(Yc Zu.out 1).trans rfl;have Jz:w13.cell? ⟨Xz,2,none⟩=some (.slice Ze Za.length Zd):=(Yc Zu.out 2).trans rfl;have Ui:=Yf Zu.out 0;have Uj:=Yf Zu.out 1;have hfz14_2:=Yf Zu.out 2)|((with_reducible refine gate_callee (f:=43) rfl ?_);refine goesL_ (some 26) rfl rfl Try.func43 (by kernel_rfl) rfl #[.agg #[.int .i64 Zc, .bool Zb, .slice Ze Za.length Zd], .slice A1 l1.length c1] rfl (by(try simp only[List.map_toArray,List.map_cons,List.map_nil]);first|done|rfl|(simp only[List.length_drop,List.length_take];rfl)) ?_;(with_reducible refine(ebbtideref07_Steps.calls k Zc Zb _ _ Za _ _ l1 t477 _ ?side1 ?side2 ?side3 ?side4 A8.out).mono ?_);(case side1=>repeat(first|exact(Yt Zl.out HB.out)|(with_reducible refine Kd.C_alloc ?_ _)|(with_reducible refine Kd.C_drewN ?_ _)|(with_reducible refine Kd.C_drew ?_)));(case side2=>exact Zv.out);(case side3=>repeat(first|exact(Yt HR1.out HB.out)|(with_reducible refine Kd.C_alloc ?_ _)|(with_reducible refine Kd.C_drewN ?_ _)|(with_reducible refine Kd.C_drew ?_)));(case side4=>exact HC1.out);rintro e w15 ⟨v478,rfl,ho0,hb⟩;refine⟨_,rfl,?_⟩;have n0_:=Ya (Kd.R_lower ho0 (Yi (by repeat(first|(with_reducible first|exact HB.out|apply Ye|apply Yd|apply Yg|refine Yh ?_ Jj.out)|exact HB.out))));have n1_:=Ya (Yn (g:=Xz) (o:= .cells #[.int .i64 Zc, .bool Zb, .slice Ze Za.length Zd] 24 (0,0)) (by(with_reducible repeat(first|refine Yl ?_ _|refine Ym ?_|refine Yj ?_ _));exact Zu.out) hb);have n2_:=Ya (Yk (by repeat(first|(with_reducible first|exact HB.out|apply Ye|apply Yd|apply Yg|refine Yh ?_ Jj.out)|exact HB.out)) hb);clear Zu;clear HB;have HO479:=n0_;have Zu:=n1_;have HB:=n2_;clear n0_ n1_ n2_;(try clear hb);(try clear hb2);(try clear hk);(try clear hi);(try clear ho0)));go_loopg [10,11] k (fun kq v10 v11 w'=> ∃ (Uy:List Int) (Zh:Int),v11= .int .i64 Zh∧Aside0 (ebbtideref08_Levels.l0 kq a2 t477 Uy Zh Zc Zb Za=some (r1,r2))∧Aside0 (kq≤k)∧Aside0 (Kd.R k38 38 w' w.heap.size (fun _=>True) v478 t477)∧Aside0 (Kd.R (Kd.int .i64) 3 w' w.heap.size (fun _=>True) v10 Uy)∧Aside0 (w'.heap[Xz]? =some (.cells #[.int .i64 Zc, .bool Zb,(.slice Ze Za.length Zd)] 24 (0,0)))∧Aside0 (Below w.heap.size w w'))
 case atStart=>exact⟨(([]:List Int)),(0),(by first|rfl|(simp;done)|(simp[*];done)),H',⟨Nat.le_refl _⟩,⟨by(with_reducible repeat(first|apply Yr|apply Yq|apply Yp));exact HO479.out⟩,⟨by first|exact Kd.R_nil _ _ _ _ _|exact Kd.N_nil _ _ _ _ _|exact Kd.V_nil _ _ _ _ _|exact Kd.Q_nil _ _ _ _ _|exact Kd.S_nil _ _ _ _ _⟩,⟨by(with_reducible repeat(first|refine Yl ?_ _|refine Ym ?_|refine Yj ?_ _));exact Zu.out⟩,⟨by repeat(first|(with_reducible first|exact HB.out|apply Ye|apply Yd|apply Yg|refine Yh ?_ Jj.out)|exact HB.out)⟩⟩
 case round=>
  clear H';try clear c1
  try clear p2
  try clear c4
  try clear c5
  try clear c5b0
  try clear c5b1
  try clear c7
  try clear c9
  try clear Vs
  try clear Vt
  try clear Jq
  try clear hcz12_0
  try clear hcz12_1
  try clear hcz12_2
  try clear Ug
  try clear Uh
  try clear Jz
  try clear Vu
  try clear Vv
  try clear Jr
  try clear hfz12_0
  try clear hfz12_1
  try clear hfz12_2
  try clear Ui
  try clear Uj
  try clear hfz14_2
  obtain⟨Uy,Zh,rfl,HA,HK1,HO_9,HO_10,Zu,HB⟩:=hrel;cases gk with
  |zero=>exact absurd HA.out (by simp[ebbtideref08_Levels.l0])
  |succ k1=>
   have H:=HA.out;clear HA;simp only[ebbtideref08_Levels.l0] at H;by_cases c16:Zh<Zc
   rotate_left
   ·rw[Yy c16] at H
    have c16b0:decide (Zh<Zc)=false:=Yw c16;clear c16;simp only[Option.some.injEq,Prod.mk.injEq] at H;obtain⟨rfl,rfl⟩:=H;have hcz30_0:wr.cell? ⟨Xz,0,none⟩=some (.int .i64 Zc):=(Yc Zu.out 0).trans rfl;have hcz30_1:wr.cell? ⟨Xz,1,none⟩=some (.bool Zb):=(Yc Zu.out 1).trans rfl;have hcz30_2:wr.cell? ⟨Xz,2,none⟩=some (.slice Ze Za.length Zd):=(Yc Zu.out 2).trans rfl;have hfz30_0:=Yf Zu.out 0;have hfz30_1:=Yf Zu.out 1;have hfz30_2:=Yf Zu.out 2;go_wp2;go_ret2;exact⟨_,by first|rfl|(simp[errW_none,errW_some]<;>rfl)|(simp[*,errW_none,errW_some]<;>rfl),by(with_reducible repeat(first|apply Yr|apply Yq|apply Yp));exact HO_10.out,by repeat(first|(with_reducible first|exact HB.out|apply Ye|apply Yd|apply Yg|refine Yh ?_ Jj.out)|exact HB.out)⟩
   rw[Yx c16] at H;have c16b0:decide (Zh<Zc)=true:=Yv c16;clear c16;replace H:=Option.bind_eq_some_iff.mp H;obtain⟨⟨t480,t483⟩,A170,H⟩:=H;replace H:(if t483=true then(if Uy.length<17592186044416 then(ebbtideref08_Levels.l0 k1 a2 t477 (Uy ++ [(t480.length:Int)]) (wrap64 (Zh+1)) Zc Zb Za) else(none)) else(if Uy.length<17592186044416 then(ebbtideref08_Levels.l0 k1 a2 t477 (Uy ++ [(-1)]) (wrap64 (Zh+1)) Zc Zb Za) else(none)))=some (r1,r2):=H;have A17:=Ya A170;clear A170;by_cases c18:t483=true
   ·subst c18
    have H1:(if Uy.length<17592186044416 then(ebbtideref08_Levels.l0 k1 a2 t477 (Uy ++ [(t480.length:Int)]) (wrap64 (Zh+1)) Zc Zb Za) else(none))=some (r1,r2):=by first|(rw[Yx rfl] at H;exact H)|(rw[Yx trivial] at H;exact H)
    clear H;have H:=H1;clear H1;by_cases c19:Uy.length<17592186044416
    rotate_left
    ·rw[Yy c19] at H
     exact absurd H (by simp)
    rw[Yx c19] at H;have LMc19:=Ya c19;clear c19;obtain⟨y484,hy484⟩: ∃ y_:List Int,y_=(Uy ++ [(t480.length:Int)]):=⟨_,rfl⟩;replace H:(ebbtideref08_Levels.l0 k1 a2 t477 y484 (wrap64 (Zh+1)) Zc Zb Za)=some (r1,r2):=by first|(rw[hy484];with_reducible exact H)|(have H2_:=(Option.bind_some _ _).symm.trans H;rw[hy484];with_reducible exact H2_)|(have H2_:=(Option.bind_some _ _).symm.trans H;with_reducible exact H2_)|with_reducible exact H|(rw[hy484];exact H)|exact H
    have Ny484:=Ya hy484;clear hy484;have H':=Ya H;clear H;have hcz20_0:wr.cell? ⟨Xz,0,none⟩=some (.int .i64 Zc):=(Yc Zu.out 0).trans rfl;have hcz20_1:wr.cell? ⟨Xz,1,none⟩=some (.bool Zb):=(Yc Zu.out 1).trans rfl;have hcz20_2:wr.cell? ⟨Xz,2,none⟩=some (.slice Ze Za.length Zd):=(Yc Zu.out 2).trans rfl;have hfz20_0:=Yf Zu.out 0;have hfz20_1:=Yf Zu.out 1;have hfz20_2:=Yf Zu.out 2;obtain⟨Ao21,co21,eo21⟩:=Kd.R_slice HO_9.out;subst eo21;go_wp2_with (first|((with_reducible refine gate_callee (f:=109) rfl ?_);refine goesL_ (some 38) rfl rfl Try.func109 (by kernel_rfl) rfl #[.agg #[.int .i64 Zc, .bool Zb, .slice Ze Za.length Zd], .int .i64 a2, .int .i64 Zh, .slice Ao21 t477.length co21] rfl (by(try simp only[List.map_toArray,List.map_cons,List.map_nil]);first|done|rfl|(simp only[List.length_drop,List.length_take];rfl)) ?_;(with_reducible refine(ebbtideref08_Way.calls Zc Zb _ _ Za a2 Zh _ _ t477 t480 true _ ?side1 ?side2 ?side3 ?side4 A17.out).mono ?_);(case side1=>repeat(first|exact(Yt Zl.out HB.out)|(with_reducible refine Kd.C_alloc ?_ _)|(with_reducible refine Kd.C_drewN ?_ _)|(with_reducible refine Kd.C_drew ?_)));(case side2=>exact Zv.out);(case side3=>repeat(first|exact(Kd.R_reads' HO_9.out).2.2|(with_reducible refine Kd.C_alloc ?_ _)|(with_reducible refine Kd.C_drewN ?_ _)|(with_reducible refine Kd.C_drew ?_)));(case side4=>exact(Kd.R_reads' HO_9.out).2.1);rintro e w22 ⟨v481,rfl,ho0,hb⟩;refine⟨_,rfl,?_⟩;have n0_:=Ya (Kd.R_elder' (by(with_reducible repeat(first|apply Yr|apply Yq|apply Yp));exact HO_9.out) (Kd.R_base ho0) hb);have n1_:=Ya (Ys (by(with_reducible repeat(first|apply Yr|apply Yq|apply Yp));exact HO_10.out) hb);have n2_:=Ya (Kd.R_lower (Kd.R_new' ho0 (Kd.R_lt (by(with_reducible repeat(first|apply Yr|apply Yq|apply Yp));exact HO_9.out))) (Yi (by repeat(first|(with_reducible first|exact HB.out|apply Ye|apply Yd|apply Yg|refine Yh ?_ Jj.out)|exact HB.out))));have n3_:=Ya (Yn (g:=Xz) (o:= .cells #[.int .i64 Zc, .bool Zb, .slice Ze Za.length Zd] 24 (0,0)) (by(with_reducible repeat(first|refine Yl ?_ _|refine Ym ?_|refine Yj ?_ _));exact Zu.out) hb);have n4_:=Ya (Yk (by repeat(first|(with_reducible first|exact HB.out|apply Ye|apply Yd|apply Yg|refine Yh ?_ Jj.out)|exact HB.out)) hb);clear HO_9;clear HO_10;clear Zu;clear HB;have HO_9:=n0_;have HO_10:=n1_;have HO482:=n2_;have Zu:=n3_;have HB:=n4_;clear n0_ n1_ n2_ n3_ n4_;(try clear hb);(try clear hb2);(try clear hk);(try clear hi);(try clear ho0);obtain⟨Ao23,co23,eo23⟩:=Kd.R_slice HO482.out;subst eo23)|((with_reducible refine gate_builtin (b:= .append) (xs:= #[.tmp 42, .tmp 45]) rfl ?_);at_builtin;refine Kd.R_append (Kd.int .i64) (w0:=w) w.heap.size rfl (.tmp 42) (.tmp 45) 25 3 (.int .i64 0) 8 rfl Try.underlying25 info3 rfl (by decide) (by omega) u10 Uy (t480.length:Int) [.int .i64 (t480.length:Int)] (fun _=>True) (fun _=>False) rfl rfl ?aP (fun _ hk=>hk.elim) ?aF ?aO ?aB ?aS ?aL ?_;(case aP=>exact rfl);(case aB=>exact(by repeat(first|(with_reducible first|exact HB.out|apply Ye|apply Yd|apply Yg|refine Yh ?_ Jj.out)|exact HB.out)));(case aF=>exact(fun _ _=>trivial));(case aO=>exact(by(with_reducible repeat(first|apply Yr|apply Yq|apply Yp));exact HO_10.out));(case aS=>exact(Yi (by repeat(first|(with_reducible first|exact HB.out|apply Ye|apply Yd|apply Yg|refine Yh ?_ Jj.out)|exact HB.out))));(case aL=>have:=LMc19.out;omega);intro v485 w24 ho hb hg hat;rw[← Ny484.out] at ho;have n0_:=Ya (Kd.R_over' (by(with_reducible repeat(first|apply Yr|apply Yq|apply Yp));exact HO_9.out) (Kd.R_typed (by(with_reducible repeat(first|apply Yr|apply Yq|apply Yp));exact HO_10.out)) (by decide) hg);have n1_:=Ya (blk_grown (g:=Xz) (o:= .cells #[.int .i64 Zc, .bool Zb, .slice Ze Za.length Zd] 24 (0,0)) (by(with_reducible repeat(first|refine Yl ?_ _|refine Ym ?_|refine Yj ?_ _));exact Zu.out) hg (Kd.R_ne HO_10.out Zu.out (by decide)));have n2_:=Ya (Kd.R_over' (by(with_reducible repeat(first|apply Yr|apply Yq|apply Yp));exact HO482.out) (Kd.R_typed (by(with_reducible repeat(first|apply Yr|apply Yq|apply Yp));exact HO_10.out)) (by decide) hg);have n3_:=Ya (hb);have n4_:=Ya (ho);clear HO_9;clear Zu;clear HO482;clear HB;clear HO_10;have HO_9:=n0_;have Zu:=n1_;have HO482:=n2_;have HB:=n3_;have HO486:=n4_;clear n0_ n1_ n2_ n3_ n4_;clear ho hb hg hat));go_roundg k1
    case measure=>have:=HK1.out;omega
    case rel=>exact⟨(y484),(wrap64 (Zh+1)),(by first|rfl|(simp;done)|(simp[*];done)),H',⟨by have:=HK1.out;omega⟩,⟨by(with_reducible repeat(first|apply Yr|apply Yq|apply Yp));exact Kd.R_mono HO_9.out (fun _ hk=>trivial)⟩,⟨by(with_reducible repeat(first|apply Yr|apply Yq|apply Yp));exact HO486.out⟩,⟨by(with_reducible repeat(first|refine Yl ?_ _|refine Ym ?_|refine Yj ?_ _));exact Zu.out⟩,⟨by repeat(first|(with_reducible first|exact HB.out|apply Ye|apply Yd|apply Yg|refine Yh ?_ Jj.out)|exact HB.out)⟩⟩
   replace c18:=Bool.eq_false_iff.mpr c18;subst c18;have H1:(if Uy.length<17592186044416 then(ebbtideref08_Levels.l0 k1 a2 t477 (Uy ++ [(-1)]) (wrap64 (Zh+1)) Zc Zb Za) else(none))=some (r1,r2):=by rw[Yy (show ¬ (false=true) by decide)] at H;exact H
   clear H;have H:=H1;clear H1;by_cases c25:Uy.length<17592186044416
   rotate_left
   ·rw[Yy c25] at H
    exact absurd H (by simp)
   rw[Yx c25] at H;have LMc25:=Ya c25;clear c25;obtain⟨y487,hy487⟩: ∃ y_:List Int,y_=(Uy ++ [(-1)]):=⟨_,rfl⟩;replace H:(ebbtideref08_Levels.l0 k1 a2 t477 y487 (wrap64 (Zh+1)) Zc Zb Za)=some (r1,r2):=by first|(rw[hy487];with_reducible exact H)|(have H2_:=(Option.bind_some _ _).symm.trans H;rw[hy487];with_reducible exact H2_)|(have H2_:=(Option.bind_some _ _).symm.trans H;with_reducible exact H2_)|with_reducible exact H|(rw[hy487];exact H)|exact H
   have Ny487:=Ya hy487;clear hy487;have H':=Ya H;clear H;have hcz26_0:wr.cell? ⟨Xz,0,none⟩=some (.int .i64 Zc):=(Yc Zu.out 0).trans rfl;have hcz26_1:wr.cell? ⟨Xz,1,none⟩=some (.bool Zb):=(Yc Zu.out 1).trans rfl;have hcz26_2:wr.cell? ⟨Xz,2,none⟩=some (.slice Ze Za.length Zd):=(Yc Zu.out 2).trans rfl;have hfz26_0:=Yf Zu.out 0;have hfz26_1:=Yf Zu.out 1;have hfz26_2:=Yf Zu.out 2;obtain⟨Ao27,co27,eo27⟩:=Kd.R_slice HO_9.out;subst eo27;go_wp2_with (first|((with_reducible refine gate_callee (f:=109) rfl ?_);refine goesL_ (some 38) rfl rfl Try.func109 (by kernel_rfl) rfl #[.agg #[.int .i64 Zc, .bool Zb, .slice Ze Za.length Zd], .int .i64 a2, .int .i64 Zh, .slice Ao27 t477.length co27] rfl (by(try simp only[List.map_toArray,List.map_cons,List.map_nil]);first|done|rfl|(simp only[List.length_drop,List.length_take];rfl)) ?_;(with_reducible refine(ebbtideref08_Way.calls Zc Zb _ _ Za a2 Zh _ _ t477 t480 false _ ?side1 ?side2 ?side3 ?side4 A17.out).mono ?_);(case side1=>repeat(first|exact(Yt Zl.out HB.out)|(with_reducible refine Kd.C_alloc ?_ _)|(with_reducible refine Kd.C_drewN ?_ _)|(with_reducible refine Kd.C_drew ?_)));(case side2=>exact Zv.out);(case side3=>repeat(first|exact(Kd.R_reads' HO_9.out).2.2|(with_reducible refine Kd.C_alloc ?_ _)|(with_reducible refine Kd.C_drewN ?_ _)|(with_reducible refine Kd.C_drew ?_)));(case side4=>exact(Kd.R_reads' HO_9.out).2.1);rintro e w28 ⟨v481,rfl,ho0,hb⟩;refine⟨_,rfl,?_⟩;have n0_:=Ya (Kd.R_elder' (by(with_reducible repeat(first|apply Yr|apply Yq|apply Yp));exact HO_9.out) (Kd.R_base ho0) hb);have n1_:=Ya (Ys (by(with_reducible repeat(first|apply Yr|apply Yq|apply Yp));exact HO_10.out) hb);have n2_:=Ya (Kd.R_lower (Kd.R_new' ho0 (Kd.R_lt (by(with_reducible repeat(first|apply Yr|apply Yq|apply Yp));exact HO_9.out))) (Yi (by repeat(first|(with_reducible first|exact HB.out|apply Ye|apply Yd|apply Yg|refine Yh ?_ Jj.out)|exact HB.out))));have n3_:=Ya (Yn (g:=Xz) (o:= .cells #[.int .i64 Zc, .bool Zb, .slice Ze Za.length Zd] 24 (0,0)) (by(with_reducible repeat(first|refine Yl ?_ _|refine Ym ?_|refine Yj ?_ _));exact Zu.out) hb);have n4_:=Ya (Yk (by repeat(first|(with_reducible first|exact HB.out|apply Ye|apply Yd|apply Yg|refine Yh ?_ Jj.out)|exact HB.out)) hb);clear HO_9;clear HO_10;clear Zu;clear HB;have HO_9:=n0_;have HO_10:=n1_;have HO482:=n2_;have Zu:=n3_;have HB:=n4_;clear n0_ n1_ n2_ n3_ n4_;(try clear hb);(try clear hb2);(try clear hk);(try clear hi);(try clear ho0))|((with_reducible refine gate_builtin (b:= .append) (xs:= #[.tmp 47, .tmp 48]) rfl ?_);at_builtin;refine Kd.R_append (Kd.int .i64) (w0:=w) w.heap.size rfl (.tmp 47) (.tmp 48) 25 3 (.int .i64 0) 8 rfl Try.underlying25 info3 rfl (by decide) (by omega) u10 Uy (-1) [.int .i64 (-1)] (fun _=>True) (fun _=>False) rfl rfl ?aP (fun _ hk=>hk.elim) ?aF ?aO ?aB ?aS ?aL ?_;(case aP=>exact rfl);(case aB=>exact(by repeat(first|(with_reducible first|exact HB.out|apply Ye|apply Yd|apply Yg|refine Yh ?_ Jj.out)|exact HB.out)));(case aF=>exact(fun _ _=>trivial));(case aO=>exact(by(with_reducible repeat(first|apply Yr|apply Yq|apply Yp));exact HO_10.out));(case aS=>exact(Yi (by repeat(first|(with_reducible first|exact HB.out|apply Ye|apply Yd|apply Yg|refine Yh ?_ Jj.out)|exact HB.out))));(case aL=>have:=LMc25.out;omega);intro v488 w29 ho hb hg hat;rw[← Ny487.out] at ho;have n0_:=Ya (Kd.R_over' (by(with_reducible repeat(first|apply Yr|apply Yq|apply Yp));exact HO_9.out) (Kd.R_typed (by(with_reducible repeat(first|apply Yr|apply Yq|apply Yp));exact HO_10.out)) (by decide) hg);have n1_:=Ya (blk_grown (g:=Xz) (o:= .cells #[.int .i64 Zc, .bool Zb, .slice Ze Za.length Zd] 24 (0,0)) (by(with_reducible repeat(first|refine Yl ?_ _|refine Ym ?_|refine Yj ?_ _));exact Zu.out) hg (Kd.R_ne HO_10.out Zu.out (by decide)));have n2_:=Ya (Kd.R_over' (by(with_reducible repeat(first|apply Yr|apply Yq|apply Yp));exact HO482.out) (Kd.R_typed (by(with_reducible repeat(first|apply Yr|apply Yq|apply Yp));exact HO_10.out)) (by decide) hg);have n3_:=Ya (hb);have n4_:=Ya (ho);clear HO_9;clear Zu;clear HO482;clear HB;clear HO_10;have HO_9:=n0_;have Zu:=n1_;have HO482:=n2_;have HB:=n3_;have HO489:=n4_;clear n0_ n1_ n2_ n3_ n4_;clear ho hb hg hat));go_roundg k1
   case measure=>have:=HK1.out;omega
   case rel=>exact⟨(y487),(wrap64 (Zh+1)),(by first|rfl|(simp;done)|(simp[*];done)),H',⟨by have:=HK1.out;omega⟩,⟨by(with_reducible repeat(first|apply Yr|apply Yq|apply Yp));exact Kd.R_mono HO_9.out (fun _ hk=>trivial)⟩,⟨by(with_reducible repeat(first|apply Yr|apply Yq|apply Yp));exact HO489.out⟩,⟨by(with_reducible repeat(first|refine Yl ?_ _|refine Ym ?_|refine Yj ?_ _));exact Zu.out⟩,⟨by repeat(first|(with_reducible first|exact HB.out|apply Ye|apply Yd|apply Yg|refine Yh ?_ Jj.out)|exact HB.out)⟩⟩
end P
end Go.Proofs.Ytkcpanpdipmmmaa
