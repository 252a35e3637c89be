/- What the law's row needs of these texts, taken out of them by wip/tool/mini.py: QWayRef P49 P51 P52 P53 P54 P56 P57 P58 P59. -/
import Derived.Test.YtjaoknhhoicigaaMbjegbn
import Derived.Test.YtjaoknhhoicigaaMegcdhb
import Derived.Deep.RegionHeld3
import Derived.Deep.DeepCutAuto
import Derived.Test.YtjaoknhhoicigaaMaoiegm
import Derived.Test.YtjaoknhhoicigaaMaaiadp
set_option linter.unusedVariables false
set_option linter.unusedSimpArgs false
open Go.RowKit Go.Proofs.YtjaoknhhoicigaaW.PrintWords Go.Proofs.YtjaoknhhoicigaaW.PrintLast Go.Proofs.YtjaoknhhoicigaaW.PrintMore
namespace Go.Proofs.Ytjaoknhhoicigaa
namespace H
open P Q
attribute [local irreducible] wpQuiet
def wayRes (l:List S73) (L:List S113) (n s:Nat) (t:Int):List S113 × Bool:=if t∈nX (bfL l L n s) then(wayL (frP l) (bfL l L n s) s t.toNat,true) else([],false)
theorem nX_nodup {st:List (Fd S113)} (h:(nodes st).Nodup):(nX st).Nodup:=by
 unfold nX;refine List.pairwise_map.2 (h.imp fun {a b} hab e=>hab ?_);omega
theorem hasI_at {st:List (Fd S113)} (h:(nodes st).Nodup) {i:Nat} {x:Fd S113} (hx:st[i]? =some x):hasI (nX st) (x.v:Int) 0=(i:Int):=by
 have hil:=(List.getElem?_eq_some_iff.1 hx).1;have hm:(x.v:Int)∈nX st:=mem_nX.2 (List.mem_map_of_mem (List.mem_of_getElem? hx));unfold hasI;rw[List.drop_zero,Yx hm,Nat.zero_add];have h1:=List.idxOf_lt_length_of_mem hm;have h2:(nX st)[(nX st).idxOf (x.v:Int)]=(x.v:Int):=List.getElem_idxOf h1;have hi:i<(nX st).length:=by rw[nX_len];exact hil
 have h3:(nX st)[i]'hi=(x.v:Int):=by
  have h4:=nX_get hx;rw[rd_nat,List.getD_eq_getElem?_getD,List.getElem?_eq_getElem hi] at h4;exact h4
 have hp:=List.pairwise_iff_getElem.1 (nX_nodup h);rcases Nat.lt_trichotomy ((nX st).idxOf (x.v:Int)) i with g|g|g
 ·exact absurd (h2.trans h3.symm) (hp _ _ h1 hi g)
 ·rw[g]
 ·exact absurd (h3.trans h2.symm) (hp _ _ hi h1 g)
def wayOk (n:Int) (l:List S73) (L:List S113) (s:Int):Bool:=
 decide (0≤s) && decide (s<n) && decide (n≤50) && decide (l.length≤200) && decide (L.length≤400) && (l.all fun a=>decide (0≤a.f0) && decide (a.f0<n) && decide (0≤a.f1) && decide (a.f1<n)) && (L.all fun e=>decide (0≤e.f0) && decide (e.f0<(l.length:Int)))
theorem wayOk_iff {n:Nat} {l:List S73} {L:List S113} {s:Nat} :wayOk n l L s=true↔StepsOk l n L∧s<n∧n≤50:=by
 unfold wayOk;simp only[Bool.and_eq_true,decide_eq_true_eq,List.all_eq_true];constructor
 ·rintro⟨⟨⟨⟨⟨⟨_,h1⟩,h2⟩,h3⟩,h4⟩,h5⟩,h6⟩
  refine⟨⟨?_,h3,?_,h4⟩,by omega,by omega⟩
  ·intro i hi
   have hg:=h5 _ (List.getElem_mem hi);have e1:rd_T73 l i=l[i]:=by rw[rdArc_nat,List.getD_eq_getElem?_getD,List.getElem?_eq_getElem hi];rfl
   unfold eFrom eTo;rw[e1];omega
  ·intro e he
   have:=h6 e he;exact⟨e.f0.toNat,by omega,by omega⟩
 ·rintro⟨h,h1,h2⟩
  refine⟨⟨⟨⟨⟨⟨by omega,by omega⟩,by omega⟩,h.arcs⟩,h.len⟩,?_⟩,?_⟩
  ·intro a ha
   obtain⟨i,hi,rfl⟩:=List.mem_iff_getElem.1 ha;have hg:=h.ends i hi;have e1:rd_T73 l i=l[i]:=by rw[rdArc_nat,List.getD_eq_getElem?_getD,List.getElem?_eq_getElem hi];rfl
   unfold eFrom eTo at hg;rw[e1] at hg;omega
  ·intro e he
   obtain⟨i,h3,h4⟩:=h.of e he;omega
theorem y_cells {w:World} {base g cap:Nat} {ok:Nat→Prop} {B:List S113} (h:Kd.R k113 113 w base ok (.slice (some ⟨g,0,none⟩) B.length cap) B) {i:Nat} {x:S113} (hx:B[i]? =some x):
  w.cell? ⟨g,i * 2,none⟩=some (.int .i64 x.f0)∧w.cell? ⟨g,i * 2+1,none⟩=some (.bool x.f1):=by
 have hi:=(List.getElem?_eq_some_iff.1 hx).1;obtain⟨c,_,hM,hc,_⟩:=Kd.R_elem h z113 (i:Int) (by omega) (by omega);have hgd:B.getD (i:Int).toNat z113=x:=by rw[Int.toNat_natCast,List.getD_eq_getElem?_getD,hx];rfl
 rw[hgd] at hM;obtain rfl:=k113_openM hM;exact⟨hc 0 _ rfl,hc 1 _ rfl⟩
theorem way_nat (l:List S73) (L:List S113) (n s t:Nat):wayRes l L n s (t:Int)=if t∈nodes (bfL l L n s) then(wayL (frP l) (bfL l L n s) s t,true) else([],false):=by
 unfold wayRes;by_cases h:t∈nodes (bfL l L n s)
 ·rw[Yx (mem_nX.2 h),Yx h,Int.toNat_natCast]
 ·rw[Yy (fun g=>h (mem_nX.1 g)),Yy h]
set_option maxHeartbeats 2000000 in
set_option maxRecDepth 100000 in
theorem way_ref (n0:Nat) (Zc:Bool) (A2:Option Addr) (c2:Nat) (l:List S73) (s:Nat) (t:Int) (A3:Option Addr) (c3:Nat) (L:List S113) (w:World)
  (hL:StepsOk l n0 L) (hs:s<n0) (hn50:n0≤50) (h2:Kd.C k73 w A2 l.length l) (hc2:l.length≤c2) (h3:Kd.C k113 w A3 L.length L) (hc3:L.length≤c3):
  Calls Try.prog 40 #[.agg #[.int .i64 n0, .bool Zc, .slice A2 l.length c2], .int .i64 (s:Int), .int .i64 t, .slice A3 L.length c3] w fun e w'=> ∃ v:Value,e= .returned (.tuple #[v, .bool (wayRes l L n0 s t).2])∧Kd.R k113 113 w' w.heap.size (fun _=>True) v (wayRes l L n0 s t).1∧Below w.heap.size w w':=by
 have hu24:=Try.underlying32;have hu161:=Try.underlying109;have hu38:=Try.underlying113;obtain⟨st,hst⟩: ∃ st_,st_=bfL l L n0 s:=⟨_,rfl⟩;have hF:Fds (frP l) (toP l) (esL l L) s st:=by rw[hst];exact(bfsN_upto (esL_to hL) hs).fds
 have hstl:st.length≤n0:=fds_len hF (esL_to hL) hs;have HF:=Ya hF;have HST:=Ya hst;obtain⟨K1,hK1⟩:=sought_ev hL hn50 Zc hs;obtain⟨K2,hK2⟩:=has_ev (nX (bfL l L n0 s)) (bY (bfL l L n0 s)) t (by rw[nX_len, ← hst];omega);have hs1:=hK1 K1 (Nat.le_refl _);have hh1:=hK2 K2 (Nat.le_refl _);rw[← hst] at hs1 hh1;obtain⟨K,hk⟩: ∃ k_,k_=K1:=⟨_,rfl⟩;obtain⟨KH,hkh⟩: ∃ k_,k_=K2:=⟨_,rfl⟩;rw[← hk] at hs1;rw[← hkh] at hh1;have HSO:=Ya hs1;have HH:=Ya hh1;have XL:Aside0 (0<st.length):=⟨by obtain⟨x,r,h1,_⟩:=hF.head;rw[h1];simp⟩;clear hK1 hK2 hk hkh hs1 hh1 hF hst K1 K2;have HL:=Ya hL;have HC2:=Ya hc2;have HC3:=Ya hc3;have H2:=Ya h2;have H3:=Ya h3;have HB:=Ya (Yo w.heap.size w);clear hL h2 h3 hc2 hc3;go_enter Try.func40,Try.ntmps40;go_upto_region 2 with (first|((with_reducible refine gate_dst (N:=4) rfl ?_);refine Yz ?hg (N:=4) ?hd (cs:= #[.int .i64 n0, .bool Zc, .slice A2 l.length c2]) (t:=32) ?hr ?_;(case hd=>rfl);(case hg=>rfl);(case hr=>first|(go_simp;done)|(go_simp;rfl));intro g3 hg w5 Zf hb;have n0_:=Ya (Yk HB.out hb);have B3:=Ya Zf;clear HB;have HB:=n0_;have GE3:Aside0 (w.heap.size≤g3):=⟨Nat.le_of_eq hg.symm⟩;clear n0_ hb Zf hg;have c0:w5.cell? ⟨g3,0,none⟩=some (.int .i64 n0):=(Yc B3.out 0).trans rfl;have c1:w5.cell? ⟨g3,1,none⟩=some (.bool Zc):=(Yc B3.out 1).trans rfl;have c2_:w5.cell? ⟨g3,2,none⟩=some (.slice A2 l.length c2):=(Yc B3.out 2).trans rfl)|(go_at_call 50;refine(ebbtideref08_sought.calls K (n0:Int) Zc A2 c2 l (s:Int) A3 c3 L _ _ _ (Yt H2.out HB.out) HC2.out (Yt H3.out HB.out) HC3.out HSO.out).mono ?_;rintro e_ w6 ⟨vx,vy,rfl,hx,hy,hb⟩;obtain⟨gx,cx,rfl,hgx,hgx2,cellsx,hcx⟩:=Kd.R_form hx (by have:=XL.out;rw[nX_len];omega);obtain⟨gy,cy,rfl,hgy,hgy2,cellsy,hcy⟩:=Kd.R_form hy (by have:=XL.out;rw[bY_len];omega);clear hcx hcy cellsx cellsy;have HX:=Ya hx;have HY:=Ya hy;have HGX:Aside0 (g3<gx∧g3<gy∧gx<w6.heap.size∧gy<w6.heap.size):=⟨by have:=blk_lt B3.out;omega⟩;have m0_:=Ya (Yk HB.out hb);have m1_:=Ya (Yn B3.out hb);clear HB B3 hx hy hb hgx hgx2 hgy hgy2 c0 c1 c2_;have HB:=m0_;have B3:=m1_;clear m0_ m1_)|fail)
 have HW:Aside0 ((w6.alloc (Obj.cells #[.slice (some ⟨gx,0,none⟩) (nX st).length cx, .slice (some ⟨gy,0,none⟩) (bY st).length cy] 109)).heap[w6.heap.size]? =some (.cells #[.slice (some ⟨gx,0,none⟩) (nX st).length cx, .slice (some ⟨gy,0,none⟩) (bY st).length cy] 109 (0,0))):=⟨heap_alloc_new _ _⟩;have h_:=HB.out.size;have m0_:=Ya (Ye HB.out (Obj.cells #[.slice (some ⟨gx,0,none⟩) (nX st).length cx, .slice (some ⟨gy,0,none⟩) (bY st).length cy] 109));have m1_:=Ya (Yn B3.out (Ye (Yo _ _) (Obj.cells #[.slice (some ⟨gx,0,none⟩) (nX st).length cx, .slice (some ⟨gy,0,none⟩) (bY st).length cy] 109)));have m2_:=Ya (Ys HX.out (Ye (Yo _ _) (Obj.cells #[.slice (some ⟨gx,0,none⟩) (nX st).length cx, .slice (some ⟨gy,0,none⟩) (bY st).length cy] 109)));have m3_:=Ya (Ys HY.out (Ye (Yo _ _) (Obj.cells #[.slice (some ⟨gx,0,none⟩) (nX st).length cx, .slice (some ⟨gy,0,none⟩) (bY st).length cy] 109)));clear HB B3 HX HY h_;have HB:=m0_;have B3:=m1_;have HX:=m2_;have HY:=m3_;clear m0_ m1_ m2_ m3_;generalize w6.alloc _=w7 at *;generalize w6.heap.size=g10 at *;obtain⟨t0,t1⟩:w7.cell? ⟨g10,0,none⟩=some (.slice (some ⟨gx,0,none⟩) (nX st).length cx)∧w7.cell? ⟨g10,1,none⟩=some (.slice (some ⟨gy,0,none⟩) (bY st).length cy):=⟨(Yc HW.out 0).trans rfl,(Yc HW.out 1).trans rfl⟩;by_cases hmem:t∈nX st
 ·obtain⟨tn,rfl⟩: ∃ tn:Nat,t=tn:=by
   obtain⟨v,_,hv⟩:=List.mem_map.1 hmem;exact⟨v,hv.symm⟩
  have hmem:=mem_nX.1 hmem;have e0:decide (hasI (nX st) (tn:Int) 0<0)=false:=Yw (fun h=>hasI_neg.1 h hmem);obtain⟨x0,hx0,hxt⟩:=List.mem_map.1 hmem;have HX0:=Ya hx0;have HXT:=Ya hxt;have HWR:Aside0 (wayRes l L n0 s (tn:Int)=(wayL (frP l) st s tn,true)):=⟨by rw[way_nat, ← HST.out,Yx hmem]⟩;have HBK0:Aside0 ((backL (frP l) st s x0.lv x0.v).reverse=wayL (frP l) st s tn):=⟨by
   unfold wayL;rw[← HXT.out];have hlv:=lv_lt HF.out HX0.out;have h_:=backL_more HF.out esL_fr [] x0.lv HX0.out (Nat.le_refl _) (k':=st.length) (Nat.le_of_lt hlv);rw[List.append_nil] at h_;rw[h_]⟩
  clear hx0 hxt hmem;go_wp2_with (first|(go_at_call 51;refine(ebbtideref08_found_has.calls KH _ cx (nX st) _ cy (bY st) _ _ _ (Kd.R_reads' HX.out).2.2 (Kd.R_reads' HX.out).2.1 (Kd.R_reads' HY.out).2.2 (Kd.R_reads' HY.out).2.1 HH.out).mono ?_;rintro e_ w8 ⟨rfl,hb⟩;have m0_:=Ya (Yk HB.out hb);have m1_:=Ya (Yn B3.out hb);have m2_:=Ya (Yn HW.out hb);have m3_:=Ya (Ys HX.out hb);have m4_:=Ya (Ys HY.out hb);clear HB B3 HW HX HY hb;have HB:=m0_;have B3:=m1_;have HW:=m2_;have HX:=m3_;have HY:=m4_;clear m0_ m1_ m2_ m3_ m4_;clear t0 t1)|fail);have h8:=HB.out.size;go_loopw [11,12] (fun v11 v12 w'=> ∃ (x:Fd S113) (O:List S113),v12= .int .i64 x.v∧x∈st∧Aside0 (O ++ backL (frP l) st s x.lv x.v=backL (frP l) st s x0.lv x0.v)∧O.length+x.lv≤50∧Aside0 (Kd.R k113 113 w' w8.heap.size (fun _=>True) v11 O)∧Aside0 (Below w8.heap.size w8 w')) (fun _ v12 _=>((dOf n0 st).getD (intOf v12).toNat 0).toNat)
  case atStart=>exact⟨x0,[],by rw[HXT.out],HX0.out,⟨rfl⟩,by have:=lv_lt HF.out HX0.out;show 0+_≤50;omega,⟨Kd.R_nil _ _ _ _ _⟩,⟨Yo _ _⟩⟩
  case round=>
   obtain⟨x,O,rfl,hx,HBK,hlen,HO,HC⟩:=hrel;have hxn:x.v<n0:=fds_lt HF.out (esL_to HL.out) hs _ (List.mem_map_of_mem hx);by_cases hxs:x.v=s
   ·have e1:((x.v:Int) != (s:Int))=false:=by rw[hxs];simp
    have hO:O=backL (frP l) st s x0.lv x0.v:=by
     have h_:=HBK.out;rw[hxs,back_end,List.append_nil] at h_;exact h_
    have HOE:=Ya hO;have hOl:O.length≤50:=by omega
    clear hxs hO hlen;obtain⟨A11,c11,e11⟩:=Kd.R_slice HO.out;subst e11;have hwr:IntKind.i64.wrap ((O.length:Int) - 1)=(O.length:Int) - 1:=IntWalk.i64_in _ (by omega);generalize wr=wE at *;go_wp2_with fail;have m0_:=Ya (Yk HB.out HC.out);clear HB HC hwr e1;have HB:=m0_;clear m0_;go_loopw [14,15] (fun v14 v15 w'=> ∃ (q:Int) (U:List S113),v15= .int .i64 q∧(-1≤q∧q<(O.length:Int))∧Aside0 (U=(O.drop (q+1).toNat).reverse)∧Aside0 (Kd.R k113 113 w' wE.heap.size (fun _=>True) v14 U)∧Aside0 (Below wE.heap.size wE w')) (fun _ v15 _=>(intOf v15+1).toNat)
    case atStart=>exact⟨(O.length:Int) - 1,[],rfl,⟨by omega,by omega⟩,⟨by rw[show ((O.length:Int) - 1+1).toNat=O.length by omega,List.drop_length];rfl⟩,⟨Kd.R_nil _ _ _ _ _⟩,⟨Yo _ _⟩⟩
    case round=>
     obtain⟨q,U,rfl,⟨hq1,hq2⟩,HU,HV,HC⟩:=hrel;by_cases hq:0≤q
     ·have e1:decide (0≤q)=true:=Yv hq
      obtain⟨g,cap,ev,_⟩:=Kd.R_form HO.out (by omega);injection ev with ev1 _ ev2
      subst ev1;subst ev2;have hqi:O[q.toNat]? =some O[q.toNat]:=List.getElem?_eq_getElem (by omega);generalize O[q.toNat]=e at hqi;obtain⟨b0,b1⟩:=y_cells (Ys HO.out HC.out) hqi;have hwr:IntKind.i64.wrap (q - 1)=q - 1:=IntWalk.i64_in _ (by omega);have HU2:Aside0 (U ++ [e]=(O.drop (q - 1+1).toNat).reverse):=⟨by
       have hd:O.drop q.toNat=e::O.drop (q.toNat+1):=by
        obtain⟨h1,h2⟩:=List.getElem?_eq_some_iff.1 hqi;rw[List.drop_eq_getElem_cons h1,h2]
       rw[show (q - 1+1).toNat=q.toNat by omega,hd,List.reverse_cons,HU.out,show (q+1).toNat=q.toNat+1 by omega]⟩
      have hUl:U.length≤50:=by rw[HU.out,List.length_reverse,List.length_drop];omega
      clear hqi HU;go_wp2_with (first|((with_reducible refine gate_builtin (b:= .append) (xs:= #[.tmp 49, .tmp 54]) rfl ?_);at_builtin;refine Kd.R_append k113 (w0:=wE) wE.heap.size rfl (.tmp 49) (.tmp 54) 96 113 (.agg #[(.int .i64 0),(.bool false)]) 16 rfl Try.underlying96 info113 rfl (by decide) (by omega) u14 U e [.int .i64 e.f0, .bool e.f1] (fun _=>True) (fun _=>False) rfl rfl ?aP (fun _ hk=>hk.elim) ?aF ?aO ?aB ?aS ?aL ?_;(case aP=>exact k113_mkM _ _ _ e);(case aF=>exact(fun k hk=>trivial));(case aO=>exact HV.out);(case aB=>exact HC.out);(case aS=>exact HC.out.size);(case aL=>omega);intro v1 w9 ho hb hg hat;have m0_:=Ya ho;have m1_:=Ya hb;clear HV HC ho hb hg hat b0 b1;have HV:=m0_;have HC:=m1_;clear m0_ m1_)|fail);go_roundw
      case rel=>exact⟨q - 1,U ++ [e],rfl,⟨by omega,by omega⟩,HU2,HV,HC⟩
      case measure=>simp[intOf]<;>omega
     ·have e1:decide (0≤q)=false:=Yw hq
      go_wp2_with fail;go_ret2;rw[HWR.out];refine⟨_,rfl,?_,Yk HB.out HC.out⟩;have h_:=HV.out;rw[HU.out,show (q+1).toNat=0 by omega,List.drop_zero,HOE.out,HBK0.out] at h_;exact Kd.R_lower h_ HB.out.size
   ·have e1:((x.v:Int) != (s:Int))=true:=by rw[bne_iff_ne];omega
    rcases HF.out.mem_lv hx with ⟨h1,_⟩|⟨_,hto,z,hz,hze,hlv⟩
    ·exact absurd h1 hxs
    obtain⟨i,hi⟩:=List.getElem?_of_mem hx;have hbk:backL (frP l) st s x.lv x.v=x.by_::backL (frP l) st s z.lv z.v:=by
     rw[hlv,backL,Yy hxs,fnd_of HF.out.nodup hx];show x.by_::_=_;rw[esL_fr _ _ hze]
    have hbi:(bY st)[i]? =some x.by_:=by unfold bY;rw[List.getElem?_map,hi];rfl
    obtain⟨b0,b1⟩:=y_cells (Ys HY.out HC.out) hbi;have hfm:=rfrom_ok HL.out (List.mem_filter.1 hze).1 (n0:Int) Zc;have hfr:stFrom l x.by_=(z.v:Int):=Yu (List.mem_filter.1 hze).2;rw[hfr] at hfm;obtain⟨K3,hK3⟩:=has_ev (nX st) (bY st) (x.v:Int) (by rw[nX_len];omega);have hh3:=hK3 K3 (Nat.le_refl _);rw[hasI_at HF.out.nodup hi] at hh3;obtain⟨k3,hk3⟩: ∃ k_,k_=K3:=⟨_,rfl⟩;rw[← hk3] at hh3;have HH3:=Ya hh3;obtain⟨e,hee⟩: ∃ e_,e_=x.by_:=⟨_,rfl⟩;rw[← hee] at b0 b1 hfm hbk;have HFM:=Ya hfm;have HBK2:Aside0 ((O ++ [e]) ++ backL (frP l) st s z.lv z.v=backL (frP l) st s x0.lv x0.v):=⟨by rw[← HBK.out,hbk,List.append_assoc];rfl⟩;have HZ:=Ya hz;have hl2:(O ++ [e]).length+z.lv≤50:=by rw[List.length_append,List.length_singleton];omega
    have HL2:=Ya hl2;have hOl:O.length≤50:=by omega
    have hmz:((dOf n0 st).getD z.v 0).toNat<((dOf n0 st).getD x.v 0).toNat:=by
     rw[dOf_mem HF.out.nodup hz 0 (fds_lt HF.out (esL_to HL.out) hs _ (List.mem_map_of_mem hz)),dOf_mem HF.out.nodup hx 0 hxn];omega
    have HMZ:=Ya hmz;have px:(0:Int)≤(i:Int):=by omega
    have qx:(i:Int)<((bY st).length:Int):=by rw[bY_len];have:=(List.getElem?_eq_some_iff.1 hi).1;omega
    obtain⟨t0,t1⟩:wr.cell? ⟨g10,0,none⟩=some (.slice (some ⟨gx,0,none⟩) (nX st).length cx)∧wr.cell? ⟨g10,1,none⟩=some (.slice (some ⟨gy,0,none⟩) (bY st).length cy):=⟨pw_cell_below HC.out ((Yc HW.out 0).trans rfl),pw_cell_below HC.out ((Yc HW.out 1).trans rfl)⟩;have H5:=Ya (Yt (Kd.R_reads' HX.out).2.2 HC.out);have H6:=Ya (Yt (Kd.R_reads' HY.out).2.2 HC.out);clear hz hze hlv hbk hfr hfm hee HBK hlen hl2 hmz hto hxs hi hbi hh3 hk3 hK3 K3;go_upto_region 7 with fail
    go_cut [13] (fun v13 wx=> ∃ g13:Nat,v13= .pointer (some ⟨g13,0,none⟩)∧wr.heap.size≤g13∧Aside0 (wx.heap[g13]? =some (.cells #[.int .i64 e.f0, .bool e.f1] 113 (0,0)))∧Aside0 (Below wr.heap.size wr wx))
    case first=>
     go_region_held3 (fun w'=>w'.cell? ⟨g10,0,none⟩=some (.slice (some ⟨gx,0,none⟩) (nX st).length cx)∧w'.cell? ⟨g10,1,none⟩=some (.slice (some ⟨gy,0,none⟩) (bY st).length cy)∧w'.cell? ⟨gy,i * 2,none⟩=some (.int .i64 e.f0)∧w'.cell? ⟨gy,i * 2+1,none⟩=some (.bool e.f1))
      (first|((try dsimp only);(refine⟨?_,?_,?_,?_⟩)<;>first|(exact pw_cell_below (below_drew (Yo _ _)) (by assumption))|(exact pw_cell_below (Ye (Yo _ _) _) (by assumption))|(exact pw_cell_below hbr (by assumption))|(exact pw_cell_below (Ye (Yk (below_drew (Yo wr.heap.size wr)) hbr) _) (by assumption))|(exact pw_cell_below (Ye (Yo wr.heap.size wr) _) (by assumption))|(exact pw_cell_below (Yk (below_drew (Ye (Yo wr.heap.size wr) _)) hbr) (by assumption))|(exact pw_cell_below (Yh (Yh (Yk (below_drew (Ye (Yo wr.heap.size wr) _)) hbr) (Nat.le_refl _)) (Nat.le_refl _)) (by assumption)))|go_keep)
      (first|(go_at_call 51;refine(ebbtideref08_found_has.calls k3 _ cx (nX st) _ cy (bY st) (x.v:Int) _ _ ?hX (Kd.R_reads' HX.out).2.1 ?hY (Kd.R_reads' HY.out).2.1 HH3.out).mono ?_;(case hX=>first|exact Yt H5.out (below_drew (Yo _ _))|exact Yt H5.out (below_drew (Ye (Yo _ _) _)));(case hY=>first|exact Yt H6.out (below_drew (Yo _ _))|exact Yt H6.out (below_drew (Ye (Yo _ _) _)));rintro e_ w9 ⟨rfl,hbr⟩;try (have hk9:w9.heap[wr.heap.size]? =some (.cells #[.int .i64 0, .bool false] 113 (0,0)):=(hbr.block _ (by simp)).trans (heap_alloc_new wr (.cells #[.int .i64 0, .bool false] 113));have kc0:=Yc hk9 0;have kc1:=Yc hk9 1;have kz0:=Yf hk9 0;have kz1:=Yf hk9 1)))
     ·go_wp2_with fail
      go_meet;exact⟨w9.heap.size,rfl,by have:=hbr.size;simpa using this,⟨heap_alloc_new w9 _⟩,⟨Ye (Yk (below_drew (Yo wr.heap.size wr)) hbr) _⟩⟩
     ·go_wp2_with fail
      go_meet;exact⟨wr.heap.size,rfl,Nat.le_refl _,⟨(blk_set (blk_set hk9 0 (.int .i64 e.f0)) 1 (.bool e.f1)).trans rfl⟩,⟨Yh (Yh (Yk (below_drew (Ye (Yo wr.heap.size wr) _)) hbr) (Nat.le_refl _)) (Nat.le_refl _)⟩⟩
    case rest=>
     obtain⟨g13,rfl,hg13,HG13,HBC⟩:=hcut;have m0_:=Ya (Yk HC.out HBC.out);have m1_:=Ya (Ys (Kd.R_mono (ok':=fun k=>k≠g13) (Kd.R_bound HO.out) (fun k hk=>by have:=hk.2.2.1;omega)) HBC.out);clear HC HO HBC t0 t1 b0 b1 H5 H6;have HC:=m0_;have HO:=m1_;clear m0_ m1_;have b0:wc.cell? ⟨g13,0,none⟩=some (.int .i64 e.f0):=(Yc HG13.out 0).trans rfl;have b1:wc.cell? ⟨g13,1,none⟩=some (.bool e.f1):=(Yc HG13.out 1).trans rfl;go_wp2_with (first|((with_reducible refine gate_builtin (b:= .append) (xs:= #[.tmp 35, .tmp 37]) rfl ?_);at_builtin;refine Kd.R_append k113 (w0:=w8) w8.heap.size rfl (.tmp 35) (.tmp 37) 96 113 (.agg #[(.int .i64 0),(.bool false)]) 16 rfl Try.underlying96 info113 rfl (by decide) (by omega) u11 O e [.int .i64 e.f0, .bool e.f1] (fun k=>k≠g13) (fun _=>False) rfl rfl ?aP (fun _ hk=>hk.elim) ?aF ?aO ?aB ?aS ?aL ?_;(case aP=>exact k113_mkM _ _ _ e);(case aF=>exact(fun k hk=>by have:=blk_lt HG13.out;omega));(case aO=>exact HO.out);(case aB=>exact HC.out);(case aS=>exact HC.out.size);(case aL=>omega);intro v1 w9 ho hb hg hat;have m0_:=Ya ho;have m1_:=Ya hb;have m2_:=Ya ((hg.block g13 (blk_lt HG13.out) (fun h=>HO.out.1 g13 h.symm rfl)).trans HG13.out);clear HO HC HG13 ho hb hg hat b0 b1;have HO:=m0_;have HC:=m1_;have HG13:=m2_;clear m0_ m1_ m2_;have b0:w9.cell? ⟨g13,0,none⟩=some (.int .i64 e.f0):=(Yc HG13.out 0).trans rfl;have b1:w9.cell? ⟨g13,1,none⟩=some (.bool e.f1):=(Yc HG13.out 1).trans rfl;have c0:w9.cell? ⟨g3,0,none⟩=some (.int .i64 n0):=pw_cell_below HC.out ((Yc B3.out 0).trans rfl);have c1:w9.cell? ⟨g3,1,none⟩=some (.bool Zc):=pw_cell_below HC.out ((Yc B3.out 1).trans rfl);have c2_:w9.cell? ⟨g3,2,none⟩=some (.slice A2 l.length c2):=pw_cell_below HC.out ((Yc B3.out 2).trans rfl))|(go_at_call 52;refine(ebbtideref07_From.calls (n0:Int) Zc A2 c2 l e.f0 e.f1 (z.v:Int) _ (Yt (Yt H2.out HB.out) HC.out) HC2.out HFM.out).mono ?_;rintro e_ w10 ⟨rfl,hb⟩;have m0_:=Ya (Yk HC.out hb);have m1_:=Ya (Ys HO.out hb);clear HC HO b0 b1 c0 c1 c2_ hb;have HC:=m0_;have HO:=m1_;clear m0_ m1_)|fail);go_roundw
     case rel=>exact⟨z,O ++ [e],rfl,HZ.out,HBK2,HL2.out,⟨Kd.R_mono HO.out (fun _ _=>trivial)⟩,HC⟩
     case measure=>have h_:=HMZ.out;simpa [intOf] using h_
 ·have e0:decide (hasI (nX st) t 0<0)=true:=Yv (by
   unfold hasI;rw[List.drop_zero,Yy hmem];omega)
  have HNO:Aside0 (wayRes l L n0 s t=([],false)):=⟨by unfold wayRes;rw[← HST.out,Yy hmem]⟩;clear hmem;go_wp2_with (first|(go_at_call 51;refine(ebbtideref08_found_has.calls KH _ cx (nX st) _ cy (bY st) _ _ _ (Kd.R_reads' HX.out).2.2 (Kd.R_reads' HX.out).2.1 (Kd.R_reads' HY.out).2.2 (Kd.R_reads' HY.out).2.1 HH.out).mono ?_;rintro e_ w8 ⟨rfl,hb⟩;have m0_:=Ya (Yk HB.out hb);have m1_:=Ya (Yn B3.out hb);have m2_:=Ya (Yn HW.out hb);have m3_:=Ya (Ys HX.out hb);have m4_:=Ya (Ys HY.out hb);clear HB B3 HW HX HY hb;have HB:=m0_;have B3:=m1_;have HW:=m2_;have HX:=m3_;have HY:=m4_;clear m0_ m1_ m2_ m3_ m4_;clear t0 t1)|fail);go_ret2;rw[HNO.out];exact⟨_,rfl,Kd.R_nil _ _ _ _ _,HB.out⟩
def wayF (n:Int) (l:List S73) (s t:Int) (L:List S113):Option (List S113 × Bool):=if wayOk n l L s=true then some (wayRes l L n.toNat s.toNat t) else none
theorem ebbtideref08_Way_calls (Zb:Int) (Zc:Bool) (Ze:Option Addr) (Zd:Nat) (Za:List S73) (a1 a2:Int) (A3:Option Addr) (c3:Nat) (l3:List S113) (r1:List S113) (r2:Bool) (w:World) (Zx:Kd.C k73 w Ze Za.length Za) (Zy:Za.length≤Zd) (hr3:Kd.C k113 w A3 l3.length l3) (hc3:l3.length≤c3) (h:wayF Zb Za a1 a2 l3=some (r1,r2)):
  Calls Try.prog 40 #[.agg #[.int .i64 Zb, .bool Zc, .slice Ze Za.length Zd], .int .i64 a1, .int .i64 a2, .slice A3 l3.length c3] w fun e w'=> ∃ v0_:Value,e= .returned (.tuple #[v0_, .bool r2])∧Kd.R k113 113 w' w.heap.size (fun _=>True) v0_ r1∧Below w.heap.size w w':=by
 unfold wayF at h;split at h
 ·rename_i hok
  obtain⟨n0,rfl⟩: ∃ n0:Nat,Zb=n0:=⟨Zb.toNat,by unfold wayOk at hok;simp only[Bool.and_eq_true,decide_eq_true_eq] at hok;omega⟩;obtain⟨s0,rfl⟩: ∃ s0:Nat,a1=s0:=⟨a1.toNat,by unfold wayOk at hok;simp only[Bool.and_eq_true,decide_eq_true_eq] at hok;omega⟩;obtain⟨h1,h2,h3⟩:=wayOk_iff.1 hok;injection h with h
  rw[Int.toNat_natCast,Int.toNat_natCast] at h;have h_:=way_ref n0 Zc Ze Zd Za s0 a2 A3 c3 l3 w h1 h2 h3 Zx Zy hr3 hc3;rw[h] at h_;exact h_
 ·cases h
theorem wayF_eq {n0:Nat} {l:List S73} {L:List S113} {s0:Nat} (h1:StepsOk l n0 L) (h2:s0<n0) (h3:n0≤50) (t:Int):wayF n0 l s0 t L=some (wayRes l L n0 s0 t):=by
 unfold wayF;rw[Yx (wayOk_iff.2 ⟨h1,h2,h3⟩),Int.toNat_natCast,Int.toNat_natCast]
end H
namespace P
attribute [local go_sem] max2_int min2_int max_two min_two max_three min_three max_four min_four
def ebbtideref08_Way.f (Zb:Int) (Zc:Bool) (Za:List (S73)) (a1:Int) (a2:Int) (l3:List (S113)):Option ((List (S113)) × Bool):=H.wayF Zb Za a1 a2 l3
theorem ebbtideref08_Way.calls (Zb:Int) (Zc:Bool) (Ze:Option Addr) (Zd:Nat) (Za:List (S73)) (a1:Int) (a2:Int) (A3:Option Addr) (c3:Nat) (l3:List (S113)) (r1:List (S113)) (r2:Bool) (w:World) (Zx:Kd.C k73 w Ze Za.length Za) (Zy:Za.length≤Zd) (hr3:Kd.C k113 w A3 l3.length l3) (hc3:l3.length≤c3) (h:ebbtideref08_Way.f Zb Zc Za a1 a2 l3=some (r1,r2)):
  Calls Try.prog 40 #[.agg #[.int .i64 Zb, .bool Zc, .slice Ze Za.length Zd], .int .i64 a1, .int .i64 a2, .slice A3 l3.length c3] w fun e w'=> ∃ v0_:Value,e= .returned (.tuple #[v0_, .bool r2])∧Kd.R k113 113 w' w.heap.size (fun _=>True) v0_ r1∧Below w.heap.size w w':=H.ebbtideref08_Way_calls Zb Zc Ze Zd Za a1 a2 A3 c3 l3 r1 r2 w Zx Zy hr3 hc3 h
end P
namespace P
attribute [local go_sem] max2_int min2_int max_two min_two max_three min_three max_four min_four
def ebbtideref07_Pushed.l0:Nat→List (S113)→Int→List Int→Int→Option (List Int)
 |0,_,_,_,_=>none
 |k+1,x1,x2,x7,x8=>if x8<(x1.length:Int) then(if 0≤x8 then(if (rd_T113 x1 x8).f1=true then(if 0≤((rd_T113 x1 x8).f0) then(if ((rd_T113 x1 x8).f0)<(x7.length:Int) then(ebbtideref07_Pushed.l0 k x1 x2 (x7.set (((rd_T113 x1 x8).f0):Int).toNat (wrap64 ((rd x7 ((rd_T113 x1 x8).f0)) - x2))) (wrap64 (x8+1))) else(none)) else(none)) else(if 0≤((rd_T113 x1 x8).f0) then(if ((rd_T113 x1 x8).f0)<(x7.length:Int) then(ebbtideref07_Pushed.l0 k x1 x2 (x7.set (((rd_T113 x1 x8).f0):Int).toNat (wrap64 ((rd x7 ((rd_T113 x1 x8).f0))+x2))) (wrap64 (x8+1))) else(none)) else(none))) else(none)) else(some x7)
def ebbtideref07_Pushed.f (k:Nat) (l0:List Int) (l1:List (S113)) (a2:Int):Option (List Int):=if ([]:List Int).length+l0.length<17592186044416 then(ebbtideref07_Pushed.l0 k l1 a2 (([]:List Int) ++ l0) 0) else(none)
def ebbtideref07_Pushed.T7:Bool × List (List Nat × List Nat):=(true,[([],[]),([],[]),([],[]),([1,2],[1,2]),([3],[3]),([4],[4]),([],[]),([],[]),([],[]),([7,8],[7,8]),([9],[9]),([10],[10]),([6,11],[6,11]),([12],[12]),([],[]),([13,14],[13,14]),([0,5,0,1,2,3,4,5,6,7,8,9,10,11,12,13,14,15],[0,5]),([16,15,0,1,2,3,4,5,6,7,8,9,10,11,12,13,14,15],[15,16])])
def ebbtideref07_Pushed.B7:List Nat:=[0,0,0,6,14,30,0,0,0,384,896,1920,4032,8128,0,32704,65535,131071]
theorem ebbtideref07_Pushed.tab7:rtab .any (opsOf Try.f42 7)=ebbtideref07_Pushed.T7:=by kernel_rfl
theorem ebbtideref07_Pushed.bits7:waitsOk ebbtideref07_Pushed.T7.2 ebbtideref07_Pushed.B7=true:=by kernel_rfl
def ebbtideref07_Pushed.T8:Bool × List (List Nat × List Nat):=(true,[([],[]),([],[]),([],[]),([1,2],[1,2]),([3],[3]),([4],[4]),([],[]),([],[]),([],[]),([7,8],[7,8]),([9],[9]),([10],[10]),([6,11],[6,11]),([12],[12]),([],[]),([13,14],[13,14]),([0,5,0,1,2,3,4,5,6,7,8,9,10,11,12,13,14,15],[0,5]),([16,15,0,1,2,3,4,5,6,7,8,9,10,11,12,13,14,15],[15,16])])
def ebbtideref07_Pushed.B8:List Nat:=[0,0,0,6,14,30,0,0,0,384,896,1920,4032,8128,0,32704,65535,131071]
theorem ebbtideref07_Pushed.tab8:rtab .any (opsOf Try.f42 8)=ebbtideref07_Pushed.T8:=by kernel_rfl
theorem ebbtideref07_Pushed.bits8:waitsOk ebbtideref07_Pushed.T8.2 ebbtideref07_Pushed.B8=true:=by kernel_rfl
set_option maxHeartbeats 8000000 in
set_option maxRecDepth 100000 in
theorem ebbtideref07_Pushed.calls (k:Nat) (A0:Option Addr) (c0:Nat) (l0:List Int) (A1:Option Addr) (c1:Nat) (l1:List (S113)) (a2:Int) (r:List Int) (w:World) (hr0:Kd.C (Kd.int .i64) w A0 l0.length l0) (hc0:l0.length≤c0) (hr1:Kd.C k113 w A1 l1.length l1) (hc1:l1.length≤c1) (h:ebbtideref07_Pushed.f k l0 l1 a2=some r):
  Calls Try.prog 42 #[.slice A0 l0.length c0, .slice A1 l1.length c1, .int .i64 a2] w fun e w'=> ∃ v0_:Value,e= .returned (v0_)∧Kd.R (Kd.int .i64) 3 w' w.heap.size (fun _=>True) v0_ r∧Below w.heap.size w w':=by
 have HR0:=Ya hr0;have HC0:=Ya hc0;clear hr0 hc0;have HR1:=Ya hr1;have HC1:=Ya hc1;clear hr1 hc1;have HB:=Ya (Yo w.heap.size w);have H:(if ([]:List Int).length+l0.length<17592186044416 then(ebbtideref07_Pushed.l0 k l1 a2 (([]:List Int) ++ l0) 0) else(none))=some r:=h;clear h;by_cases c4:([]:List Int).length+l0.length<17592186044416
 rotate_left
 ·rw[Yy c4] at H
  exact absurd H (by simp)
 rw[Yx c4] at H;have LMc4:=Ya c4;clear c4;obtain⟨y495,hy495⟩: ∃ y_:List Int,y_=(([]:List Int) ++ l0):=⟨_,rfl⟩;replace H:(ebbtideref07_Pushed.l0 k l1 a2 y495 0)=some r:=by first|(rw[hy495];with_reducible exact H)|(have H2_:=(Option.bind_some _ _).symm.trans H;rw[hy495];with_reducible exact H2_)|(have H2_:=(Option.bind_some _ _).symm.trans H;with_reducible exact H2_)|with_reducible exact H|(rw[hy495];exact H)|exact H
 have Ny495:=Ya hy495;clear hy495;have H':=Ya H;clear H;go_enter Try.func42,Try.ntmps42;go_wp2_with (first|((with_reducible refine gate_builtin (b:= .append) (xs:= #[.tmp 9, .tmp 10]) rfl ?_);at_builtin;refine Kd.R_append_rows (Kd.int .i64) (w0:=w) w.heap.size rfl (.tmp 9) (.tmp 10) 56 3 (.int .i64 0) 8 rfl Try.underlying56 info3 rfl (by decide) (by omega) (.slice none 0 0) ([]:List Int) l0 _ _ _ (fun _=>True) (fun _=>False) rfl rfl ?aO ?aR (fun _ _ h=>h) (fun _ h=>h.elim) ?aF ?aB ?aS ?aL ?_;(case aR=>repeat(first|exact HR0.out|(with_reducible refine Kd.C_alloc ?_ _)|(with_reducible refine Kd.C_drewN ?_ _)|(with_reducible refine Kd.C_drew ?_)));(case aB=>exact(by repeat(first|(with_reducible first|exact HB.out|apply Ye|apply Yd|apply Yg)|exact HB.out)));(case aF=>exact(fun _ _=>trivial));(case aO=>exact((Kd.R_nil _ _ _ _ (fun _=>True))));(case aS=>exact(Yi (by repeat(first|(with_reducible first|exact HB.out|apply Ye|apply Yd|apply Yg)|exact HB.out))));(case aL=>have:=LMc4.out;omega);intro v496 w5 ho hb hg hat;rw[← Ny495.out] at ho;have n0_:=Ya (hb);have n1_:=Ya (ho);clear HB;have HB:=n0_;have HO497:=n1_;clear n0_ n1_;clear ho hb hg hat));go_loopg [8] k (fun kq v8 w'=> ∃ (Wj:List Int) (Zg:Int),v8= .int .i64 Zg∧Aside0 (ebbtideref07_Pushed.l0 kq l1 a2 Wj Zg=some r)∧Aside0 (kq≤k)∧Aside0 (Kd.R (Kd.int .i64) 3 w' w.heap.size (fun _=>True) v496 Wj)∧Aside0 (Below w.heap.size w w'))
 case atStart=>exact⟨(y495),(0),(by first|rfl|(simp;done)|(simp[*];done)),H',⟨Nat.le_refl _⟩,⟨by(with_reducible repeat(first|apply Yr|apply Yq|apply Yp));exact HO497.out⟩,⟨by repeat(first|(with_reducible first|exact HB.out|apply Ye|apply Yd|apply Yg)|exact HB.out)⟩⟩
 case round=>
  clear H';try clear c1
  try clear p2
  try clear c4
  obtain⟨Wj,Zg,rfl,HA,HK1,HO_7,HB⟩:=hrel;cases gk with
  |zero=>exact absurd HA.out (by simp[ebbtideref07_Pushed.l0])
  |succ k1=>
   have H:=HA.out;clear HA;simp only[ebbtideref07_Pushed.l0] at H;by_cases c6:Zg<(l1.length:Int)
   rotate_left
   ·rw[Yy c6] at H
    have c6b0:decide (Zg<(l1.length:Int))=false:=Yw c6;clear c6;obtain rfl:=Option.some.inj H;go_wp2;go_ret;exact⟨_,by first|rfl|(simp[errW_none,errW_some]<;>rfl)|(simp[*,errW_none,errW_some]<;>rfl),by(with_reducible repeat(first|apply Yr|apply Yq|apply Yp));exact HO_7.out,by repeat(first|(with_reducible first|exact HB.out|apply Ye|apply Yd|apply Yg)|exact HB.out)⟩
   rw[Yx c6] at H;have c6b0:decide (Zg<(l1.length:Int))=true:=Yv c6;clear c6;by_cases c7:0≤Zg
   rotate_left
   ·rw[Yy c7] at H
    exact absurd H (by simp)
   rw[Yx c7] at H;have c7b0:decide (0≤Zg)=true:=Yv c7;clear c7;obtain⟨bq8,hbq8⟩: ∃ b_:Bool,b_=((rd_T113 l1 Zg).f1):=⟨_,rfl⟩;replace H:(if bq8=true then(if 0≤((rd_T113 l1 Zg).f0) then(if ((rd_T113 l1 Zg).f0)<(Wj.length:Int) then(ebbtideref07_Pushed.l0 k1 l1 a2 (Wj.set (((rd_T113 l1 Zg).f0):Int).toNat (wrap64 ((rd Wj ((rd_T113 l1 Zg).f0)) - a2))) (wrap64 (Zg+1))) else(none)) else(none)) else(if 0≤((rd_T113 l1 Zg).f0) then(if ((rd_T113 l1 Zg).f0)<(Wj.length:Int) then(ebbtideref07_Pushed.l0 k1 l1 a2 (Wj.set (((rd_T113 l1 Zg).f0):Int).toNat (wrap64 ((rd Wj ((rd_T113 l1 Zg).f0))+a2))) (wrap64 (Zg+1))) else(none)) else(none)))=some r:=by rw[← hbq8] at H;exact H
   have Nbq8:=Ya hbq8;clear hbq8;by_cases c9:bq8=true
   ·subst c9
    have H1:(if 0≤((rd_T113 l1 Zg).f0) then(if ((rd_T113 l1 Zg).f0)<(Wj.length:Int) then(ebbtideref07_Pushed.l0 k1 l1 a2 (Wj.set (((rd_T113 l1 Zg).f0):Int).toNat (wrap64 ((rd Wj ((rd_T113 l1 Zg).f0)) - a2))) (wrap64 (Zg+1))) else(none)) else(none))=some r:=by first|(rw[Yx rfl] at H;exact H)|(rw[Yx trivial] at H;exact H)
    clear H;have H:=H1;clear H1;by_cases c10:0≤((rd_T113 l1 Zg).f0)
    rotate_left
    ·rw[Yy c10] at H
     exact absurd H (by simp)
    rw[Yx c10] at H;have c10b0:decide (0≤((rd_T113 l1 Zg).f0))=true:=Yv c10;clear c10;by_cases c11:((rd_T113 l1 Zg).f0)<(Wj.length:Int)
    rotate_left
    ·rw[Yy c11] at H
     exact absurd H (by simp)
    rw[Yx c11] at H;have c11b0:decide (((rd_T113 l1 Zg).f0)<(Wj.length:Int))=true:=Yv c11;clear c11;obtain⟨y502,hy502⟩: ∃ y_:List Int,y_=(Wj.set (((rd_T113 l1 Zg).f0):Int).toNat (wrap64 ((rd Wj ((rd_T113 l1 Zg).f0)) - a2))):=⟨_,rfl⟩;replace H:(ebbtideref07_Pushed.l0 k1 l1 a2 y502 (wrap64 (Zg+1)))=some r:=by first|(rw[hy502];with_reducible exact H)|(have H2_:=(Option.bind_some _ _).symm.trans H;rw[hy502];with_reducible exact H2_)|(have H2_:=(Option.bind_some _ _).symm.trans H;with_reducible exact H2_)|with_reducible exact H|(rw[hy502];exact H)|exact H
    have Ny502:=Ya hy502;clear hy502;have H':=Ya H;clear H;have p498:0≤(Zg:Int):=Yu (by first|(with_reducible assumption)|assumption);have q498:Zg<(l1.length:Int):=Yu (by first|(with_reducible assumption)|assumption);obtain⟨ad498,e498,hx498_0,hx498_1⟩:=at_T113 HR1.out Zg p498 q498
    (try rw[← Nbq8.out] at hx498_1)
    cases e498;replace hx498_0:=(HB.out.cell (Yb w _ hx498_0)).trans hx498_0;replace hx498_1:=(HB.out.cell (Yb w _ hx498_1)).trans hx498_1;replace p498:=eq_true p498;replace q498:=eq_true q498;try go_wp2
    have n0_:=Ya (Yp HO_7.out);have n1_:=Ya (Yg HB.out);clear HO_7;clear HB;have HO_7:=n0_;have HB:=n1_;clear n0_ n1_;have p499:0≤(Zg:Int):=Yu (by first|(with_reducible assumption)|assumption);have q499:Zg<(l1.length:Int):=Yu (by first|(with_reducible assumption)|assumption);obtain⟨ad499,e499,hx499_0,hx499_1⟩:=at_T113 HR1.out Zg p499 q499;have hw499_1:=hx499_1;have hw499_0:=hx499_0
    (try rw[← Nbq8.out] at hx499_1)
    (try rw[← Nbq8.out] at hw499_1)
    obtain rfl:ad498=ad499:=(by injection e499);replace hx499_0:=(HB.out.cell (Yb w _ hx499_0)).trans hx499_0;replace hx499_1:=(HB.out.cell (Yb w _ hx499_1)).trans hx499_1;replace p499:=eq_true p499;replace q499:=eq_true q499;have p500:0≤(Zg:Int):=Yu (by first|(with_reducible assumption)|assumption);have q500:Zg<(l1.length:Int):=Yu (by first|(with_reducible assumption)|assumption);obtain⟨ad500,e500,hx500_0,hx500_1⟩:=at_T113 HR1.out Zg p500 q500;have hw500_1:=hx500_1;have hw500_0:=hx500_0
    (try rw[← Nbq8.out] at hx500_1)
    (try rw[← Nbq8.out] at hw500_1)
    obtain rfl:ad498=ad500:=(by injection e500);replace hx500_0:=(HB.out.cell (Yb w _ hx500_0)).trans hx500_0;replace hx500_1:=(HB.out.cell (Yb w _ hx500_1)).trans hx500_1;replace p500:=eq_true p500;replace q500:=eq_true q500;obtain⟨Ao14,co14,eo14⟩:=Kd.R_slice HO_7.out
    (first|subst eo14|(injection eo14 with f1_ f2_ f3_;have f4_:=f1_.symm;have f5_:=f3_.symm;clear f1_ f2_ f3_;subst f4_;subst f5_))
    have p501:0≤(((rd_T113 l1 Zg).f0):Int):=Yu (by first|(with_reducible assumption)|assumption);have q501:((rd_T113 l1 Zg).f0)<(Wj.length:Int):=Yu (by first|(with_reducible assumption)|assumption);obtain⟨ad501,e501,hx501_0⟩:=Kd.at_int (Kd.R_reads' HO_7.out).2.2 ((rd_T113 l1 Zg).f0) p501 q501;cases e501;replace p501:=eq_true p501;replace q501:=eq_true q501;have p12:0≤(((rd_T113 l1 Zg).f0):Int):=Yu (by first|(with_reducible assumption)|assumption);have q12:(((rd_T113 l1 Zg).f0):Int)<((Wj.length:Int):Int):=Yu (by first|(with_reducible assumption)|assumption);obtain⟨go12,co12,eo12,gb12,gl12,cl12,HG12⟩:=Kd.R_form HO_7.out (by omega)
    (first|cases eo12|(injection eo12 with ea_ en_ ec_;(first|subst ea_|(injection ea_ with ea_;subst ea_));subst ec_;clear en_))
    have GB12:=Ya gb12;have GG12:=Ya HG12;clear gb12 gl12 HG12
    (first|simp only[add_plain] at hx501_0|skip)
    obtain⟨hx12_0,hf12_0⟩:=Kd.R_celln 0 HO_7.out (((rd_T113 l1 Zg).f0):Int) p12 q12;replace p12:=eq_true p12;replace q12:=eq_true q12;have HP15:=Kd.R_putn HO_7.out (((rd_T113 l1 Zg).f0):Int) (wrap64 ((rd Wj ((rd_T113 l1 Zg).f0)) - a2));rw[← Ny502.out] at HP15;have HQ15:=Ya HP15;clear HP15;refine start_ (n:=18) (S:=fun w'=>w'.cell? (ad498.add ((Zg).toNat * 2))=some (.int .i64 ((rd_T113 l1 Zg).f0))∧w'.cell? ⟨(ad498.add ((Zg).toNat * 2)).block,(ad498.add ((Zg).toNat * 2)).off+1,none⟩=some (.bool (true))∧w'.cell? (ad498.add ((Zg).toNat * 2))=some (.int .i64 ((rd_T113 l1 Zg).f0))∧w'.cell? ⟨(ad498.add ((Zg).toNat * 2)).block,(ad498.add ((Zg).toNat * 2)).off+1,none⟩=some (.bool (true))∧w'.cell? ⟨go12,(((rd_T113 l1 Zg).f0)).toNat,none⟩=some (.int .i64 (rd Wj ((rd_T113 l1 Zg).f0)))) (ds:=[17]) #[false,false,false,false,false,false,false,false,false,false,false,false,false,false,false,false,false,false] (by kernel_rfl) rfl rfl ⟨((HB.out.cell (Yb w _ hw499_0)).trans hw499_0),((HB.out.cell (Yb w _ hw499_1)).trans hw499_1),((HB.out.cell (Yb w _ hw500_0)).trans hw500_0),((HB.out.cell (Yb w _ hw500_1)).trans hw500_1),hx501_0⟩ (fun hHeld=> ?_);refine with_tabW ebbtideref07_Pushed.tab7 ebbtideref07_Pushed.bits7 (fun HT_ HW_=> ?_);generalize wr.drew=w13 at HO_7 HB GG12 HQ15 hf12_0 hx12_0 hx499_0 hx499_1 hx500_0 hx500_1 hx501_0 hHeld ⊢;refine pure_ (i:=0) (N:=some 23) (v:= ?_) (a':= ?_) #[true,false,false,false,false,false,false,false,false,false,false,false,false,false,false,false,false,false] rfl rfl (any_of HT_.out (by kernel_rfl)) (fun _ _ _ h=>h) (Or.inl ⟨by rfl,?_⟩) ?_ ?_
    rotate_left
    ·intro w'
     go_simp
     with_reducible rfl
    rotate_left
    ·simp only[Act.put,List.setIfInBounds_toArray,List.set_cons_zero,List.set_cons_succ,i64_w,i32_w]
     rfl
    refine pure_ (i:=1) (N:=some 24) (v:= ?_) (a':= ?_) #[true,true,false,false,false,false,false,false,false,false,false,false,false,false,false,false,false,false] rfl rfl (any_of HT_.out (by kernel_rfl)) (fun _ _ _ h=>h) (Or.inl ⟨by rfl,?_⟩) ?_ ?_
    rotate_left
    ·intro w'
     go_simp
     with_reducible rfl
    rotate_left
    ·simp only[Act.put,List.setIfInBounds_toArray,List.set_cons_zero,List.set_cons_succ,i64_w,i32_w]
     rfl
    refine pure_ (i:=2) (N:=some 25) (v:= ?_) (a':= ?_) #[true,true,true,false,false,false,false,false,false,false,false,false,false,false,false,false,false,false] rfl rfl (any_of HT_.out (by kernel_rfl)) (fun _ _ _ h=>h) (Or.inl ⟨by rfl,?_⟩) ?_ ?_
    rotate_left
    ·intro w'
     go_simp
     with_reducible rfl
    rotate_left
    ·simp only[Act.put,List.setIfInBounds_toArray,List.set_cons_zero,List.set_cons_succ,i64_w,i32_w]
     rfl
    refine pure_ (i:=3) (N:=some 26) (v:= ?_) (a':= ?_) #[true,true,true,true,false,false,false,false,false,false,false,false,false,false,false,false,false,false] rfl rfl (any_of HT_.out (by kernel_rfl)) (fun _ _ _ h=>h) (Or.inl ⟨by rfl,?_⟩) ?_ ?_
    rotate_left
    ·intro w'
     go_simp
     with_reducible rfl
    rotate_left
    ·simp only[Act.put,List.setIfInBounds_toArray,List.set_cons_zero,List.set_cons_succ,i64_w,i32_w]
     rfl
    refine pure_ (i:=4) (N:=some 27) (v:= ?_) (a':= ?_) #[true,true,true,true,true,false,false,false,false,false,false,false,false,false,false,false,false,false] rfl rfl (any_of HT_.out (by kernel_rfl)) (fun _ _ _ h=>h) (Or.inl ⟨by rfl,?_⟩) ?_ ?_
    rotate_left
    ·intro w'
     go_simp
     with_reducible rfl
    rotate_left
    ·simp only[Act.put,List.setIfInBounds_toArray,List.set_cons_zero,List.set_cons_succ,i64_w,i32_w]
     rfl
    refine pure_ (i:=6) (N:=some 29) (v:= ?_) (a':= ?_) #[true,true,true,true,true,false,true,false,false,false,false,false,false,false,false,false,false,false] rfl rfl (any_of HT_.out (by kernel_rfl)) (fun _ _ _ h=>h) (Or.inl ⟨by rfl,?_⟩) ?_ ?_
    rotate_left
    ·intro w'
     go_simp
     with_reducible rfl
    rotate_left
    ·simp only[Act.put,List.setIfInBounds_toArray,List.set_cons_zero,List.set_cons_succ,i64_w,i32_w]
     rfl
    refine pure_ (i:=7) (N:=some 30) (v:= ?_) (a':= ?_) #[true,true,true,true,true,false,true,true,false,false,false,false,false,false,false,false,false,false] rfl rfl (any_of HT_.out (by kernel_rfl)) (fun _ _ _ h=>h) (Or.inl ⟨by rfl,?_⟩) ?_ ?_
    rotate_left
    ·intro w'
     go_simp
     with_reducible rfl
    rotate_left
    ·simp only[Act.put,List.setIfInBounds_toArray,List.set_cons_zero,List.set_cons_succ,i64_w,i32_w]
     rfl
    refine pure_ (i:=8) (N:=some 31) (v:= ?_) (a':= ?_) #[true,true,true,true,true,false,true,true,true,false,false,false,false,false,false,false,false,false] rfl rfl (any_of HT_.out (by kernel_rfl)) (fun _ _ _ h=>h) (Or.inl ⟨by rfl,?_⟩) ?_ ?_
    rotate_left
    ·intro w'
     go_simp
     with_reducible rfl
    rotate_left
    ·simp only[Act.put,List.setIfInBounds_toArray,List.set_cons_zero,List.set_cons_succ,i64_w,i32_w]
     rfl
    refine pure_ (i:=9) (N:=some 32) (v:= ?_) (a':= ?_) #[true,true,true,true,true,false,true,true,true,true,false,false,false,false,false,false,false,false] rfl rfl (any_of HT_.out (by kernel_rfl)) (fun _ _ _ h=>h) (Or.inl ⟨by rfl,?_⟩) ?_ ?_
    rotate_left
    ·intro w'
     go_simp
     with_reducible rfl
    rotate_left
    ·simp only[Act.put,List.setIfInBounds_toArray,List.set_cons_zero,List.set_cons_succ,i64_w,i32_w]
     rfl
    refine pure_ (i:=10) (N:=some 33) (v:= ?_) (a':= ?_) #[true,true,true,true,true,false,true,true,true,true,true,false,false,false,false,false,false,false] rfl rfl (any_of HT_.out (by kernel_rfl)) (fun _ _ _ h=>h) (Or.inl ⟨by rfl,?_⟩) ?_ ?_
    rotate_left
    ·intro w'
     go_simp
     with_reducible rfl
    rotate_left
    ·simp only[Act.put,List.setIfInBounds_toArray,List.set_cons_zero,List.set_cons_succ,i64_w,i32_w]
     rfl
    refine pure_ (i:=14) (N:=some 37) (v:= ?_) (a':= ?_) #[true,true,true,true,true,false,true,true,true,true,true,false,false,false,true,false,false,false] rfl rfl (any_of HT_.out (by kernel_rfl)) (fun _ _ _ h=>h) (Or.inl ⟨by rfl,?_⟩) ?_ ?_
    rotate_left
    ·intro w'
     go_simp
     with_reducible rfl
    rotate_left
    ·simp only[Act.put,List.setIfInBounds_toArray,List.set_cons_zero,List.set_cons_succ,i64_w,i32_w]
     rfl
    refine take_ (i:=5) (N:=some 28) (v:= ?_) (a':= ?_) #[true,true,true,true,true,true,true,true,true,true,true,false,false,false,true,false,false,false] rfl rfl (take_ofW HT_.out HW_.out (by kernel_rfl)) (fun _ _ _ h=>h) (Or.inl ⟨by rfl,?_⟩) hHeld ?_ ?_
    rotate_left
    ·rintro w' ⟨s0,s1,s2,s3,s4⟩
     go_simp
     with_reducible rfl
    rotate_left
    ·simp only[Act.put,List.setIfInBounds_toArray,List.set_cons_zero,List.set_cons_succ,i64_w,i32_w]
     rfl
    refine take_ (i:=11) (N:=some 34) (v:= ?_) (a':= ?_) #[true,true,true,true,true,true,true,true,true,true,true,true,false,false,true,false,false,false] rfl rfl (take_ofW HT_.out HW_.out (by kernel_rfl)) (fun _ _ _ h=>h) (Or.inl ⟨by rfl,?_⟩) hHeld ?_ ?_
    rotate_left
    ·rintro w' ⟨s0,s1,s2,s3,s4⟩
     go_simp
     with_reducible rfl
    rotate_left
    ·simp only[Act.put,List.setIfInBounds_toArray,List.set_cons_zero,List.set_cons_succ,i64_w,i32_w]
     rfl
    refine pure_ (i:=12) (N:=some 35) (v:= ?_) (a':= ?_) #[true,true,true,true,true,true,true,true,true,true,true,true,true,false,true,false,false,false] rfl rfl (any_of HT_.out (by kernel_rfl)) (fun _ _ _ h=>h) (Or.inl ⟨by rfl,?_⟩) ?_ ?_
    rotate_left
    ·intro w'
     go_simp
     with_reducible rfl
    rotate_left
    ·simp only[Act.put,List.setIfInBounds_toArray,List.set_cons_zero,List.set_cons_succ,i64_w,i32_w]
     rfl
    refine take_ (i:=13) (N:=some 36) (v:= ?_) (a':= ?_) #[true,true,true,true,true,true,true,true,true,true,true,true,true,true,true,false,false,false] rfl rfl (take_ofW HT_.out HW_.out (by kernel_rfl)) (fun _ _ _ h=>h) (Or.inl ⟨by rfl,?_⟩) hHeld ?_ ?_
    rotate_left
    ·rintro w' ⟨s0,s1,s2,s3,s4⟩
     go_simp
     with_reducible rfl
    rotate_left
    ·simp only[Act.put,List.setIfInBounds_toArray,List.set_cons_zero,List.set_cons_succ,i64_w,i32_w]
     rfl
    refine pure_ (i:=15) (N:=some 38) (v:= ?_) (a':= ?_) #[true,true,true,true,true,true,true,true,true,true,true,true,true,true,true,true,false,false] rfl rfl (any_of HT_.out (by kernel_rfl)) (fun _ _ _ h=>h) (Or.inl ⟨by rfl,?_⟩) ?_ ?_
    rotate_left
    ·intro w'
     go_simp
     with_reducible rfl
    rotate_left
    ·simp only[Act.put,List.setIfInBounds_toArray,List.set_cons_zero,List.set_cons_succ,i64_w,i32_w]
     rfl
    refine pure_ (i:=16) (N:=some 39) (v:= ?_) (a':= ?_) #[true,true,true,true,true,true,true,true,true,true,true,true,true,true,true,true,true,false] rfl rfl (any_of HT_.out (by kernel_rfl)) (fun _ _ _ h=>h) (Or.inl ⟨by rfl,?_⟩) ?_ ?_
    rotate_left
    ·intro w'
     go_simp
     with_reducible rfl
    rotate_left
    ·simp only[Act.put,List.setIfInBounds_toArray,List.set_cons_zero,List.set_cons_succ,i64_w,i32_w]
     rfl
    refine last_ (i:=17) (N:=none) #[true,true,true,true,true,true,true,true,true,true,true,true,true,true,true,true,true,true] rfl rfl (one_of HT_.out (by kernel_rfl)) (by decide) (fun K hK=> ?_);refine skip_ (w1:= ?_) (by rfl) rfl ?_ ?_
    rotate_left
    ·go_simp
     rfl
    refine hK.out _ _ ?_;clear hK K;refine done_ (done_of HT_.out (by kernel_rfl)) ?_;try go_wp2
    go_roundg k1
    case measure=>have:=HK1.out;omega
    case rel=>exact⟨(y502),(wrap64 (Zg+1)),(by first|rfl|(simp;done)|(simp[*];done)),H',⟨by have:=HK1.out;omega⟩,⟨by(with_reducible repeat(first|apply Yr|apply Yq|apply Yp));exact HQ15.out⟩,⟨by repeat(first|(with_reducible first|exact HB.out|apply Ye|apply Yd|apply Yg|refine Yh ?_ GB12.out)|exact HB.out)⟩⟩
   replace c9:=Bool.eq_false_iff.mpr c9;subst c9;have H1:(if 0≤((rd_T113 l1 Zg).f0) then(if ((rd_T113 l1 Zg).f0)<(Wj.length:Int) then(ebbtideref07_Pushed.l0 k1 l1 a2 (Wj.set (((rd_T113 l1 Zg).f0):Int).toNat (wrap64 ((rd Wj ((rd_T113 l1 Zg).f0))+a2))) (wrap64 (Zg+1))) else(none)) else(none))=some r:=by rw[Yy (show ¬ (false=true) by decide)] at H;exact H
   clear H;have H:=H1;clear H1;by_cases c16:0≤((rd_T113 l1 Zg).f0)
   rotate_left
   ·rw[Yy c16] at H
    exact absurd H (by simp)
   rw[Yx c16] at H;have c16b0:decide (0≤((rd_T113 l1 Zg).f0))=true:=Yv c16;clear c16;by_cases c17:((rd_T113 l1 Zg).f0)<(Wj.length:Int)
   rotate_left
   ·rw[Yy c17] at H
    exact absurd H (by simp)
   rw[Yx c17] at H;have c17b0:decide (((rd_T113 l1 Zg).f0)<(Wj.length:Int))=true:=Yv c17;clear c17;obtain⟨y506,hy506⟩: ∃ y_:List Int,y_=(Wj.set (((rd_T113 l1 Zg).f0):Int).toNat (wrap64 ((rd Wj ((rd_T113 l1 Zg).f0))+a2))):=⟨_,rfl⟩;replace H:(ebbtideref07_Pushed.l0 k1 l1 a2 y506 (wrap64 (Zg+1)))=some r:=by first|(rw[hy506];with_reducible exact H)|(have H2_:=(Option.bind_some _ _).symm.trans H;rw[hy506];with_reducible exact H2_)|(have H2_:=(Option.bind_some _ _).symm.trans H;with_reducible exact H2_)|with_reducible exact H|(rw[hy506];exact H)|exact H
   have Ny506:=Ya hy506;clear hy506;have H':=Ya H;clear H;have p498:0≤(Zg:Int):=Yu (by first|(with_reducible assumption)|assumption);have q498:Zg<(l1.length:Int):=Yu (by first|(with_reducible assumption)|assumption);obtain⟨ad498,e498,hx498_0,hx498_1⟩:=at_T113 HR1.out Zg p498 q498
   (try rw[← Nbq8.out] at hx498_1)
   cases e498;replace hx498_0:=(HB.out.cell (Yb w _ hx498_0)).trans hx498_0;replace hx498_1:=(HB.out.cell (Yb w _ hx498_1)).trans hx498_1;replace p498:=eq_true p498;replace q498:=eq_true q498;try go_wp2
   have n0_:=Ya (Yp HO_7.out);have n1_:=Ya (Yg HB.out);clear HO_7;clear HB;have HO_7:=n0_;have HB:=n1_;clear n0_ n1_;have p503:0≤(Zg:Int):=Yu (by first|(with_reducible assumption)|assumption);have q503:Zg<(l1.length:Int):=Yu (by first|(with_reducible assumption)|assumption);obtain⟨ad503,e503,hx503_0,hx503_1⟩:=at_T113 HR1.out Zg p503 q503;have hw503_1:=hx503_1;have hw503_0:=hx503_0
   (try rw[← Nbq8.out] at hx503_1)
   (try rw[← Nbq8.out] at hw503_1)
   obtain rfl:ad498=ad503:=(by injection e503);replace hx503_0:=(HB.out.cell (Yb w _ hx503_0)).trans hx503_0;replace hx503_1:=(HB.out.cell (Yb w _ hx503_1)).trans hx503_1;replace p503:=eq_true p503;replace q503:=eq_true q503;have p504:0≤(Zg:Int):=Yu (by first|(with_reducible assumption)|assumption);have q504:Zg<(l1.length:Int):=Yu (by first|(with_reducible assumption)|assumption);obtain⟨ad504,e504,hx504_0,hx504_1⟩:=at_T113 HR1.out Zg p504 q504;have hw504_1:=hx504_1;have hw504_0:=hx504_0
   (try rw[← Nbq8.out] at hx504_1)
   (try rw[← Nbq8.out] at hw504_1)
   obtain rfl:ad498=ad504:=(by injection e504);replace hx504_0:=(HB.out.cell (Yb w _ hx504_0)).trans hx504_0;replace hx504_1:=(HB.out.cell (Yb w _ hx504_1)).trans hx504_1;replace p504:=eq_true p504;replace q504:=eq_true q504;obtain⟨Ao20,co20,eo20⟩:=Kd.R_slice HO_7.out
   (first|subst eo20|(injection eo20 with f1_ f2_ f3_;have f4_:=f1_.symm;have f5_:=f3_.symm;clear f1_ f2_ f3_;subst f4_;subst f5_))
   have p505:0≤(((rd_T113 l1 Zg).f0):Int):=Yu (by first|(with_reducible assumption)|assumption);have q505:((rd_T113 l1 Zg).f0)<(Wj.length:Int):=Yu (by first|(with_reducible assumption)|assumption);obtain⟨ad505,e505,hx505_0⟩:=Kd.at_int (Kd.R_reads' HO_7.out).2.2 ((rd_T113 l1 Zg).f0) p505 q505;cases e505;replace p505:=eq_true p505;replace q505:=eq_true q505;have p18:0≤(((rd_T113 l1 Zg).f0):Int):=Yu (by first|(with_reducible assumption)|assumption);have q18:(((rd_T113 l1 Zg).f0):Int)<((Wj.length:Int):Int):=Yu (by first|(with_reducible assumption)|assumption);obtain⟨go18,co18,eo18,gb18,gl18,cl18,HG18⟩:=Kd.R_form HO_7.out (by omega)
   (first|cases eo18|(injection eo18 with ea_ en_ ec_;(first|subst ea_|(injection ea_ with ea_;subst ea_));subst ec_;clear en_))
   have GB18:=Ya gb18;have GG18:=Ya HG18;clear gb18 gl18 HG18
   (first|simp only[add_plain] at hx505_0|skip)
   obtain⟨hx18_0,hf18_0⟩:=Kd.R_celln 0 HO_7.out (((rd_T113 l1 Zg).f0):Int) p18 q18;replace p18:=eq_true p18;replace q18:=eq_true q18;have HP21:=Kd.R_putn HO_7.out (((rd_T113 l1 Zg).f0):Int) (wrap64 ((rd Wj ((rd_T113 l1 Zg).f0))+a2));rw[← Ny506.out] at HP21;have HQ21:=Ya HP21;clear HP21;refine start_ (n:=18) (S:=fun w'=>w'.cell? (ad498.add ((Zg).toNat * 2))=some (.int .i64 ((rd_T113 l1 Zg).f0))∧w'.cell? ⟨(ad498.add ((Zg).toNat * 2)).block,(ad498.add ((Zg).toNat * 2)).off+1,none⟩=some (.bool (false))∧w'.cell? (ad498.add ((Zg).toNat * 2))=some (.int .i64 ((rd_T113 l1 Zg).f0))∧w'.cell? ⟨(ad498.add ((Zg).toNat * 2)).block,(ad498.add ((Zg).toNat * 2)).off+1,none⟩=some (.bool (false))∧w'.cell? ⟨go18,(((rd_T113 l1 Zg).f0)).toNat,none⟩=some (.int .i64 (rd Wj ((rd_T113 l1 Zg).f0)))) (ds:=[17]) #[false,false,false,false,false,false,false,false,false,false,false,false,false,false,false,false,false,false] (by kernel_rfl) rfl rfl ⟨((HB.out.cell (Yb w _ hw503_0)).trans hw503_0),((HB.out.cell (Yb w _ hw503_1)).trans hw503_1),((HB.out.cell (Yb w _ hw504_0)).trans hw504_0),((HB.out.cell (Yb w _ hw504_1)).trans hw504_1),hx505_0⟩ (fun hHeld=> ?_);refine with_tabW ebbtideref07_Pushed.tab8 ebbtideref07_Pushed.bits8 (fun HT_ HW_=> ?_);generalize wr.drew=w19 at HO_7 HB GG18 HQ21 hf18_0 hx18_0 hx503_0 hx503_1 hx504_0 hx504_1 hx505_0 hHeld ⊢;refine pure_ (i:=0) (N:=some 40) (v:= ?_) (a':= ?_) #[true,false,false,false,false,false,false,false,false,false,false,false,false,false,false,false,false,false] rfl rfl (any_of HT_.out (by kernel_rfl)) (fun _ _ _ h=>h) (Or.inl ⟨by rfl,?_⟩) ?_ ?_
   rotate_left
   ·intro w'
    go_simp
    with_reducible rfl
   rotate_left
   ·simp only[Act.put,List.setIfInBounds_toArray,List.set_cons_zero,List.set_cons_succ,i64_w,i32_w]
    rfl
   refine pure_ (i:=1) (N:=some 41) (v:= ?_) (a':= ?_) #[true,true,false,false,false,false,false,false,false,false,false,false,false,false,false,false,false,false] rfl rfl (any_of HT_.out (by kernel_rfl)) (fun _ _ _ h=>h) (Or.inl ⟨by rfl,?_⟩) ?_ ?_
   rotate_left
   ·intro w'
    go_simp
    with_reducible rfl
   rotate_left
   ·simp only[Act.put,List.setIfInBounds_toArray,List.set_cons_zero,List.set_cons_succ,i64_w,i32_w]
    rfl
   refine pure_ (i:=2) (N:=some 42) (v:= ?_) (a':= ?_) #[true,true,true,false,false,false,false,false,false,false,false,false,false,false,false,false,false,false] rfl rfl (any_of HT_.out (by kernel_rfl)) (fun _ _ _ h=>h) (Or.inl ⟨by rfl,?_⟩) ?_ ?_
   rotate_left
   ·intro w'
    go_simp
    with_reducible rfl
   rotate_left
   ·simp only[Act.put,List.setIfInBounds_toArray,List.set_cons_zero,List.set_cons_succ,i64_w,i32_w]
    rfl
   refine pure_ (i:=3) (N:=some 43) (v:= ?_) (a':= ?_) #[true,true,true,true,false,false,false,false,false,false,false,false,false,false,false,false,false,false] rfl rfl (any_of HT_.out (by kernel_rfl)) (fun _ _ _ h=>h) (Or.inl ⟨by rfl,?_⟩) ?_ ?_
   rotate_left
   ·intro w'
    go_simp
    with_reducible rfl
   rotate_left
   ·simp only[Act.put,List.setIfInBounds_toArray,List.set_cons_zero,List.set_cons_succ,i64_w,i32_w]
    rfl
   refine pure_ (i:=4) (N:=some 44) (v:= ?_) (a':= ?_) #[true,true,true,true,true,false,false,false,false,false,false,false,false,false,false,false,false,false] rfl rfl (any_of HT_.out (by kernel_rfl)) (fun _ _ _ h=>h) (Or.inl ⟨by rfl,?_⟩) ?_ ?_
   rotate_left
   ·intro w'
    go_simp
    with_reducible rfl
   rotate_left
   ·simp only[Act.put,List.setIfInBounds_toArray,List.set_cons_zero,List.set_cons_succ,i64_w,i32_w]
    rfl
   refine pure_ (i:=6) (N:=some 46) (v:= ?_) (a':= ?_) #[true,true,true,true,true,false,true,false,false,false,false,false,false,false,false,false,false,false] rfl rfl (any_of HT_.out (by kernel_rfl)) (fun _ _ _ h=>h) (Or.inl ⟨by rfl,?_⟩) ?_ ?_
   rotate_left
   ·intro w'
    go_simp
    with_reducible rfl
   rotate_left
   ·simp only[Act.put,List.setIfInBounds_toArray,List.set_cons_zero,List.set_cons_succ,i64_w,i32_w]
    rfl
   refine pure_ (i:=7) (N:=some 47) (v:= ?_) (a':= ?_) #[true,true,true,true,true,false,true,true,false,false,false,false,false,false,false,false,false,false] rfl rfl (any_of HT_.out (by kernel_rfl)) (fun _ _ _ h=>h) (Or.inl ⟨by rfl,?_⟩) ?_ ?_
   rotate_left
   ·intro w'
    go_simp
    with_reducible rfl
   rotate_left
   ·simp only[Act.put,List.setIfInBounds_toArray,List.set_cons_zero,List.set_cons_succ,i64_w,i32_w]
    rfl
   refine pure_ (i:=8) (N:=some 48) (v:= ?_) (a':= ?_) #[true,true,true,true,true,false,true,true,true,false,false,false,false,false,false,false,false,false] rfl rfl (any_of HT_.out (by kernel_rfl)) (fun _ _ _ h=>h) (Or.inl ⟨by rfl,?_⟩) ?_ ?_
   rotate_left
   ·intro w'
    go_simp
    with_reducible rfl
   rotate_left
   ·simp only[Act.put,List.setIfInBounds_toArray,List.set_cons_zero,List.set_cons_succ,i64_w,i32_w]
    rfl
   refine pure_ (i:=9) (N:=some 49) (v:= ?_) (a':= ?_) #[true,true,true,true,true,false,true,true,true,true,false,false,false,false,false,false,false,false] rfl rfl (any_of HT_.out (by kernel_rfl)) (fun _ _ _ h=>h) (Or.inl ⟨by rfl,?_⟩) ?_ ?_
   rotate_left
   ·intro w'
    go_simp
    with_reducible rfl
   rotate_left
   ·simp only[Act.put,List.setIfInBounds_toArray,List.set_cons_zero,List.set_cons_succ,i64_w,i32_w]
    rfl
   refine pure_ (i:=10) (N:=some 50) (v:= ?_) (a':= ?_) #[true,true,true,true,true,false,true,true,true,true,true,false,false,false,false,false,false,false] rfl rfl (any_of HT_.out (by kernel_rfl)) (fun _ _ _ h=>h) (Or.inl ⟨by rfl,?_⟩) ?_ ?_
   rotate_left
   ·intro w'
    go_simp
    with_reducible rfl
   rotate_left
   ·simp only[Act.put,List.setIfInBounds_toArray,List.set_cons_zero,List.set_cons_succ,i64_w,i32_w]
    rfl
   refine pure_ (i:=14) (N:=some 54) (v:= ?_) (a':= ?_) #[true,true,true,true,true,false,true,true,true,true,true,false,false,false,true,false,false,false] rfl rfl (any_of HT_.out (by kernel_rfl)) (fun _ _ _ h=>h) (Or.inl ⟨by rfl,?_⟩) ?_ ?_
   rotate_left
   ·intro w'
    go_simp
    with_reducible rfl
   rotate_left
   ·simp only[Act.put,List.setIfInBounds_toArray,List.set_cons_zero,List.set_cons_succ,i64_w,i32_w]
    rfl
   refine take_ (i:=5) (N:=some 45) (v:= ?_) (a':= ?_) #[true,true,true,true,true,true,true,true,true,true,true,false,false,false,true,false,false,false] rfl rfl (take_ofW HT_.out HW_.out (by kernel_rfl)) (fun _ _ _ h=>h) (Or.inl ⟨by rfl,?_⟩) hHeld ?_ ?_
   rotate_left
   ·rintro w' ⟨s0,s1,s2,s3,s4⟩
    go_simp
    with_reducible rfl
   rotate_left
   ·simp only[Act.put,List.setIfInBounds_toArray,List.set_cons_zero,List.set_cons_succ,i64_w,i32_w]
    rfl
   refine take_ (i:=11) (N:=some 51) (v:= ?_) (a':= ?_) #[true,true,true,true,true,true,true,true,true,true,true,true,false,false,true,false,false,false] rfl rfl (take_ofW HT_.out HW_.out (by kernel_rfl)) (fun _ _ _ h=>h) (Or.inl ⟨by rfl,?_⟩) hHeld ?_ ?_
   rotate_left
   ·rintro w' ⟨s0,s1,s2,s3,s4⟩
    go_simp
    with_reducible rfl
   rotate_left
   ·simp only[Act.put,List.setIfInBounds_toArray,List.set_cons_zero,List.set_cons_succ,i64_w,i32_w]
    rfl
   refine pure_ (i:=12) (N:=some 52) (v:= ?_) (a':= ?_) #[true,true,true,true,true,true,true,true,true,true,true,true,true,false,true,false,false,false] rfl rfl (any_of HT_.out (by kernel_rfl)) (fun _ _ _ h=>h) (Or.inl ⟨by rfl,?_⟩) ?_ ?_
   rotate_left
   ·intro w'
    go_simp
    with_reducible rfl
   rotate_left
   ·simp only[Act.put,List.setIfInBounds_toArray,List.set_cons_zero,List.set_cons_succ,i64_w,i32_w]
    rfl
   refine take_ (i:=13) (N:=some 53) (v:= ?_) (a':= ?_) #[true,true,true,true,true,true,true,true,true,true,true,true,true,true,true,false,false,false] rfl rfl (take_ofW HT_.out HW_.out (by kernel_rfl)) (fun _ _ _ h=>h) (Or.inl ⟨by rfl,?_⟩) hHeld ?_ ?_
   rotate_left
   ·rintro w' ⟨s0,s1,s2,s3,s4⟩
    go_simp
    with_reducible rfl
   rotate_left
   ·simp only[Act.put,List.setIfInBounds_toArray,List.set_cons_zero,List.set_cons_succ,i64_w,i32_w]
    rfl
   refine pure_ (i:=15) (N:=some 55) (v:= ?_) (a':= ?_) #[true,true,true,true,true,true,true,true,true,true,true,true,true,true,true,true,false,false] rfl rfl (any_of HT_.out (by kernel_rfl)) (fun _ _ _ h=>h) (Or.inl ⟨by rfl,?_⟩) ?_ ?_
   rotate_left
   ·intro w'
    go_simp
    with_reducible rfl
   rotate_left
   ·simp only[Act.put,List.setIfInBounds_toArray,List.set_cons_zero,List.set_cons_succ,i64_w,i32_w]
    rfl
   refine pure_ (i:=16) (N:=some 56) (v:= ?_) (a':= ?_) #[true,true,true,true,true,true,true,true,true,true,true,true,true,true,true,true,true,false] rfl rfl (any_of HT_.out (by kernel_rfl)) (fun _ _ _ h=>h) (Or.inl ⟨by rfl,?_⟩) ?_ ?_
   rotate_left
   ·intro w'
    go_simp
    with_reducible rfl
   rotate_left
   ·simp only[Act.put,List.setIfInBounds_toArray,List.set_cons_zero,List.set_cons_succ,i64_w,i32_w]
    rfl
   refine last_ (i:=17) (N:=none) #[true,true,true,true,true,true,true,true,true,true,true,true,true,true,true,true,true,true] rfl rfl (one_of HT_.out (by kernel_rfl)) (by decide) (fun K hK=> ?_);refine skip_ (w1:= ?_) (by rfl) rfl ?_ ?_
   rotate_left
   ·go_simp
    rfl
   refine hK.out _ _ ?_;clear hK K;refine done_ (done_of HT_.out (by kernel_rfl)) ?_;try go_wp2
   go_roundg k1
   case measure=>have:=HK1.out;omega
   case rel=>exact⟨(y506),(wrap64 (Zg+1)),(by first|rfl|(simp;done)|(simp[*];done)),H',⟨by have:=HK1.out;omega⟩,⟨by(with_reducible repeat(first|apply Yr|apply Yq|apply Yp));exact HQ21.out⟩,⟨by repeat(first|(with_reducible first|exact HB.out|apply Ye|apply Yd|apply Yg|refine Yh ?_ GB18.out)|exact HB.out)⟩⟩
end P
namespace P
attribute [local go_sem] max2_int min2_int max_two min_two max_three min_three max_four min_four
def ebbtideref07_Left.f (Zb:Int) (Zc:Bool) (Za:List (S73)) (l1:List Int) (Xf:Int) (a2_1:Bool):Option (Int):=if a2_1=true then(if 0≤Xf then(if Xf<(l1.length:Int) then(some (rd l1 Xf)) else(none)) else(none)) else(if 0≤Xf then(if Xf<(Za.length:Int) then(if Xf<(l1.length:Int) then(some (wrap64 (((rd_T73 Za Xf).f2) - (rd l1 Xf)))) else(none)) else(none)) else(none))
set_option maxHeartbeats 8000000 in
set_option maxRecDepth 100000 in
theorem ebbtideref07_Left.calls (Zb:Int) (Zc:Bool) (Ze:Option Addr) (Zd:Nat) (Za:List (S73)) (A1:Option Addr) (c1:Nat) (l1:List Int) (Xf:Int) (a2_1:Bool) (r:Int) (w:World) (Zx:Kd.C k73 w Ze Za.length Za) (Zy:Za.length≤Zd) (hr1:Kd.C (Kd.int .i64) w A1 l1.length l1) (hc1:l1.length≤c1) (h:ebbtideref07_Left.f Zb Zc Za l1 Xf a2_1=some r):
  Calls Try.prog 53 #[.agg #[.int .i64 Zb, .bool Zc, .slice Ze Za.length Zd], .slice A1 l1.length c1, .agg #[.int .i64 Xf, .bool a2_1]] w fun e w'=>e= .returned (.int .i64 r)∧Below w.heap.size w w':=by
 have hu32:=Try.underlying32;have hu113:=Try.underlying113;have Zo:=Ya Zx;have Zz:=Ya Zy;clear Zx Zy;have HR1:=Ya hr1;have HC1:=Ya hc1;clear hr1 hc1;have HB:=Ya (Yo w.heap.size w);have H:(if a2_1=true then(if 0≤Xf then(if Xf<(l1.length:Int) then(some (rd l1 Xf)) else(none)) else(none)) else(if 0≤Xf then(if Xf<(Za.length:Int) then(if Xf<(l1.length:Int) then(some (wrap64 (((rd_T73 Za Xf).f2) - (rd l1 Xf)))) else(none)) else(none)) else(none)))=some r:=h;clear h;by_cases c4:a2_1=true
 ·subst c4
  have H1:(if 0≤Xf then(if Xf<(l1.length:Int) then(some (rd l1 Xf)) else(none)) else(none))=some r:=by first|(rw[Yx rfl] at H;exact H)|(rw[Yx trivial] at H;exact H)
  clear H;have H:=H1;clear H1;by_cases c5:0≤Xf
  rotate_left
  ·rw[Yy c5] at H
   exact absurd H (by simp)
  rw[Yx c5] at H;have c5b0:decide (0≤Xf)=true:=Yv c5;clear c5;by_cases c6:Xf<(l1.length:Int)
  rotate_left
  ·rw[Yy c6] at H
   exact absurd H (by simp)
  rw[Yx c6] at H;have c6b0:decide (Xf<(l1.length:Int))=true:=Yv c6;clear c6;obtain rfl:=Option.some.inj H;go_enter Try.func53,Try.ntmps53;go_wp2_with (first|((with_reducible refine gate_dst (N:=3) rfl ?_);refine Yz ?hg (N:=3) ?hd (cs:= #[.int .i64 Zb, .bool Zc, .slice Ze Za.length Zd]) (t:=32) ?hr ?_;(case hd=>rfl);(case hg=>rfl);(case hr=>first|(go_simp;done)|(go_simp;rfl));intro Xu hg w7 Zf hb;have n0_:=Ya (Yk (by repeat(first|(with_reducible first|exact HB.out|apply Ye|apply Yd|apply Yg)|exact HB.out)) hb);have n1_:=Ya (Zf);have n2_:=Ya ((by rw[hg];exact(Yi (by repeat(first|(with_reducible first|exact HB.out|apply Ye|apply Yd|apply Yg)|exact HB.out))):w.heap.size≤Xu));have n3_:=Ya ((by rw[hg];exact(Yi (by repeat(first|(with_reducible first|exact HB.out|apply Ye|apply Yd|apply Yg)|exact HB.out))):w.heap.size≤Xu));clear HB;have HB:=n0_;have Xy:=n1_;have GW507:=n2_;have Jy:=n3_;clear n0_ n1_ n2_ n3_;clear hb Zf hg)|((with_reducible refine gate_dst (N:=5) rfl ?_);refine Yz ?hg (N:=5) ?hd (cs:= #[.int .i64 Xf, .bool true]) (t:=113) ?hr ?_;(case hd=>rfl);(case hg=>rfl);(case hr=>first|(go_simp;done)|(go_simp;rfl));intro Wr hg w8 Zf hb;have n0_:=Ya (Yn (g:=Xu) (o:= .cells #[.int .i64 Zb, .bool Zc, .slice Ze Za.length Zd] 32 (0,0)) (by(with_reducible repeat(first|refine Yl ?_ _|refine Ym ?_|refine Yj ?_ _));exact Xy.out) hb);have n1_:=Ya (Yk (by repeat(first|(with_reducible first|exact HB.out|apply Ye|apply Yd|apply Yg|refine Yh ?_ Jy.out)|exact HB.out)) hb);have n2_:=Ya (Zf);have n3_:=Ya ((by rw[hg];exact(Yi (by repeat(first|(with_reducible first|exact HB.out|apply Ye|apply Yd|apply Yg|refine Yh ?_ Jy.out)|exact HB.out))):w.heap.size≤Wr));have n4_:=Ya ((by rw[hg];exact(Yi (by repeat(first|(with_reducible first|exact HB.out|apply Ye|apply Yd|apply Yg|refine Yh ?_ Jy.out)|exact HB.out))):w.heap.size≤Wr));have n5_:=Ya ((by rw[hg];exact Nat.ne_of_lt (blk_lt (g:=Xu) (o:= .cells #[.int .i64 Zb, .bool Zc, .slice Ze Za.length Zd] 32 (0,0)) (by(with_reducible repeat(first|refine Yl ?_ _|refine Ym ?_|refine Yj ?_ _));exact Xy.out)):Xu≠Wr));have n6_:=Ya ((by rw[hg];exact Nat.ne_of_gt (blk_lt (g:=Xu) (o:= .cells #[.int .i64 Zb, .bool Zc, .slice Ze Za.length Zd] 32 (0,0)) (by(with_reducible repeat(first|refine Yl ?_ _|refine Ym ?_|refine Yj ?_ _));exact Xy.out)):Wr≠Xu));clear Xy;clear HB;have Xy:=n0_;have HB:=n1_;have Us:=n2_;have GW508:=n3_;have GE508:=n4_;have Jb:=n5_;have Jc:=n6_;clear n0_ n1_ n2_ n3_ n4_ n5_ n6_;clear hb Zf hg;have hnb9:=Jc.out;have hnc9:=Jb.out;have Ui:w8.cell? ⟨Wr,0,none⟩=some (.int .i64 Xf):=(Yc Us.out 0).trans rfl;have Uj:w8.cell? ⟨Wr,1,none⟩=some (.bool true):=(Yc Us.out 1).trans rfl;have Uk:=Yf Us.out 0;have Ul:=Yf Us.out 1;have p509:0≤(Xf:Int):=Yu (by first|(with_reducible assumption)|assumption);have q509:Xf<(l1.length:Int):=Yu (by first|(with_reducible assumption)|assumption);obtain⟨ad509,e509,hx509_0⟩:=Kd.at_int HR1.out Xf p509 q509;cases e509;replace hx509_0:=(HB.out.cell (Yb w _ hx509_0)).trans hx509_0;replace p509:=eq_true p509;replace q509:=eq_true q509));repeat(go_quiet (first|((with_reducible refine gate_dst (N:=3) rfl ?_);refine Yz ?hg (N:=3) ?hd (cs:= #[.int .i64 Zb, .bool Zc, .slice Ze Za.length Zd]) (t:=32) ?hr ?_;(case hd=>rfl);(case hg=>rfl);(case hr=>first|(go_simp;done)|(go_simp;rfl));intro Xu hg w7 Zf hb;have n0_:=Ya (Yk (by repeat(first|(with_reducible first|exact HB.out|apply Ye|apply Yd|apply Yg)|exact HB.out)) hb);have n1_:=Ya (Zf);have n2_:=Ya ((by rw[hg];exact(Yi (by repeat(first|(with_reducible first|exact HB.out|apply Ye|apply Yd|apply Yg)|exact HB.out))):w.heap.size≤Xu));have n3_:=Ya ((by rw[hg];exact(Yi (by repeat(first|(with_reducible first|exact HB.out|apply Ye|apply Yd|apply Yg)|exact HB.out))):w.heap.size≤Xu));clear HB;have HB:=n0_;have Xy:=n1_;have GW507:=n2_;have Jy:=n3_;clear n0_ n1_ n2_ n3_;clear hb Zf hg)|((with_reducible refine gate_dst (N:=5) rfl ?_);refine Yz ?hg (N:=5) ?hd (cs:= #[.int .i64 Xf, .bool true]) (t:=113) ?hr ?_;(case hd=>rfl);(case hg=>rfl);(case hr=>first|(go_simp;done)|(go_simp;rfl));intro Wr hg w8 Zf hb;have n0_:=Ya (Yn (g:=Xu) (o:= .cells #[.int .i64 Zb, .bool Zc, .slice Ze Za.length Zd] 32 (0,0)) (by(with_reducible repeat(first|refine Yl ?_ _|refine Ym ?_|refine Yj ?_ _));exact Xy.out) hb);have n1_:=Ya (Yk (by repeat(first|(with_reducible first|exact HB.out|apply Ye|apply Yd|apply Yg|refine Yh ?_ Jy.out)|exact HB.out)) hb);have n2_:=Ya (Zf);have n3_:=Ya ((by rw[hg];exact(Yi (by repeat(first|(with_reducible first|exact HB.out|apply Ye|apply Yd|apply Yg|refine Yh ?_ Jy.out)|exact HB.out))):w.heap.size≤Wr));have n4_:=Ya ((by rw[hg];exact(Yi (by repeat(first|(with_reducible first|exact HB.out|apply Ye|apply Yd|apply Yg|refine Yh ?_ Jy.out)|exact HB.out))):w.heap.size≤Wr));have n5_:=Ya ((by rw[hg];exact Nat.ne_of_lt (blk_lt (g:=Xu) (o:= .cells #[.int .i64 Zb, .bool Zc, .slice Ze Za.length Zd] 32 (0,0)) (by(with_reducible repeat(first|refine Yl ?_ _|refine Ym ?_|refine Yj ?_ _));exact Xy.out)):Xu≠Wr));have n6_:=Ya ((by rw[hg];exact Nat.ne_of_gt (blk_lt (g:=Xu) (o:= .cells #[.int .i64 Zb, .bool Zc, .slice Ze Za.length Zd] 32 (0,0)) (by(with_reducible repeat(first|refine Yl ?_ _|refine Ym ?_|refine Yj ?_ _));exact Xy.out)):Wr≠Xu));clear Xy;clear HB;have Xy:=n0_;have HB:=n1_;have Us:=n2_;have GW508:=n3_;have GE508:=n4_;have Jb:=n5_;have Jc:=n6_;clear n0_ n1_ n2_ n3_ n4_ n5_ n6_;clear hb Zf hg;have hnb9:=Jc.out;have hnc9:=Jb.out;have Ui:w8.cell? ⟨Wr,0,none⟩=some (.int .i64 Xf):=(Yc Us.out 0).trans rfl;have Uj:w8.cell? ⟨Wr,1,none⟩=some (.bool true):=(Yc Us.out 1).trans rfl;have Uk:=Yf Us.out 0;have Ul:=Yf Us.out 1;have p509:0≤(Xf:Int):=Yu (by first|(with_reducible assumption)|assumption);have q509:Xf<(l1.length:Int):=Yu (by first|(with_reducible assumption)|assumption);obtain⟨ad509,e509,hx509_0⟩:=Kd.at_int HR1.out Xf p509 q509;cases e509;replace hx509_0:=(HB.out.cell (Yb w _ hx509_0)).trans hx509_0;replace p509:=eq_true p509;replace q509:=eq_true q509));try go_wp2_with (first|((with_reducible refine gate_dst (N:=3) rfl ?_);refine Yz ?hg (N:=3) ?hd (cs:= #[.int .i64 Zb, .bool Zc, .slice Ze Za.length Zd]) (t:=32) ?hr ?_;(case hd=>rfl);(case hg=>rfl);(case hr=>first|(go_simp;done)|(go_simp;rfl));intro Xu hg w7 Zf hb;have n0_:=Ya (Yk (by repeat(first|(with_reducible first|exact HB.out|apply Ye|apply Yd|apply Yg)|exact HB.out)) hb);have n1_:=Ya (Zf);have n2_:=Ya ((by rw[hg];exact(Yi (by repeat(first|(with_reducible first|exact HB.out|apply Ye|apply Yd|apply Yg)|exact HB.out))):w.heap.size≤Xu));have n3_:=Ya ((by rw[hg];exact(Yi (by repeat(first|(with_reducible first|exact HB.out|apply Ye|apply Yd|apply Yg)|exact HB.out))):w.heap.size≤Xu));clear HB;have HB:=n0_;have Xy:=n1_;have GW507:=n2_;have Jy:=n3_;clear n0_ n1_ n2_ n3_;clear hb Zf hg)|((with_reducible refine gate_dst (N:=5) rfl ?_);refine Yz ?hg (N:=5) ?hd (cs:= #[.int .i64 Xf, .bool true]) (t:=113) ?hr ?_;(case hd=>rfl);(case hg=>rfl);(case hr=>first|(go_simp;done)|(go_simp;rfl));intro Wr hg w8 Zf hb;have n0_:=Ya (Yn (g:=Xu) (o:= .cells #[.int .i64 Zb, .bool Zc, .slice Ze Za.length Zd] 32 (0,0)) (by(with_reducible repeat(first|refine Yl ?_ _|refine Ym ?_|refine Yj ?_ _));exact Xy.out) hb);have n1_:=Ya (Yk (by repeat(first|(with_reducible first|exact HB.out|apply Ye|apply Yd|apply Yg|refine Yh ?_ Jy.out)|exact HB.out)) hb);have n2_:=Ya (Zf);have n3_:=Ya ((by rw[hg];exact(Yi (by repeat(first|(with_reducible first|exact HB.out|apply Ye|apply Yd|apply Yg|refine Yh ?_ Jy.out)|exact HB.out))):w.heap.size≤Wr));have n4_:=Ya ((by rw[hg];exact(Yi (by repeat(first|(with_reducible first|exact HB.out|apply Ye|apply Yd|apply Yg|refine Yh ?_ Jy.out)|exact HB.out))):w.heap.size≤Wr));have n5_:=Ya ((by rw[hg];exact Nat.ne_of_lt (blk_lt (g:=Xu) (o:= .cells #[.int .i64 Zb, .bool Zc, .slice Ze Za.length Zd] 32 (0,0)) (by(with_reducible repeat(first|refine Yl ?_ _|refine Ym ?_|refine Yj ?_ _));exact Xy.out)):Xu≠Wr));have n6_:=Ya ((by rw[hg];exact Nat.ne_of_gt (blk_lt (g:=Xu) (o:= .cells #[.int .i64 Zb, .bool Zc, .slice Ze Za.length Zd] 32 (0,0)) (by(with_reducible repeat(first|refine Yl ?_ _|refine Ym ?_|refine Yj ?_ _));exact Xy.out)):Wr≠Xu));clear Xy;clear HB;have Xy:=n0_;have HB:=n1_;have Us:=n2_;have GW508:=n3_;have GE508:=n4_;have Jb:=n5_;have Jc:=n6_;clear n0_ n1_ n2_ n3_ n4_ n5_ n6_;clear hb Zf hg;have hnb9:=Jc.out;have hnc9:=Jb.out;have Ui:w8.cell? ⟨Wr,0,none⟩=some (.int .i64 Xf):=(Yc Us.out 0).trans rfl;have Uj:w8.cell? ⟨Wr,1,none⟩=some (.bool true):=(Yc Us.out 1).trans rfl;have Uk:=Yf Us.out 0;have Ul:=Yf Us.out 1;have p509:0≤(Xf:Int):=Yu (by first|(with_reducible assumption)|assumption);have q509:Xf<(l1.length:Int):=Yu (by first|(with_reducible assumption)|assumption);obtain⟨ad509,e509,hx509_0⟩:=Kd.at_int HR1.out Xf p509 q509;cases e509;replace hx509_0:=(HB.out.cell (Yb w _ hx509_0)).trans hx509_0;replace p509:=eq_true p509;replace q509:=eq_true q509)))
  go_ret;exact⟨by first|rfl|(simp[errW_none,errW_some]<;>rfl)|(simp[*,errW_none,errW_some]<;>rfl),by repeat(first|(with_reducible first|exact HB.out|apply Ye|apply Yd|apply Yg|refine Yh ?_ Jy.out|refine Yh ?_ GE508.out)|exact HB.out)⟩
 replace c4:=Bool.eq_false_iff.mpr c4;subst c4;have H1:(if 0≤Xf then(if Xf<(Za.length:Int) then(if Xf<(l1.length:Int) then(some (wrap64 (((rd_T73 Za Xf).f2) - (rd l1 Xf)))) else(none)) else(none)) else(none))=some r:=by rw[Yy (show ¬ (false=true) by decide)] at H;exact H
 clear H;have H:=H1;clear H1;by_cases c11:0≤Xf
 rotate_left
 ·rw[Yy c11] at H
  exact absurd H (by simp)
 rw[Yx c11] at H;have c11b0:decide (0≤Xf)=true:=Yv c11;clear c11;by_cases c12:Xf<(Za.length:Int)
 rotate_left
 ·rw[Yy c12] at H
  exact absurd H (by simp)
 rw[Yx c12] at H;have c12b0:decide (Xf<(Za.length:Int))=true:=Yv c12;clear c12;by_cases c13:Xf<(l1.length:Int)
 rotate_left
 ·rw[Yy c13] at H
  exact absurd H (by simp)
 rw[Yx c13] at H;have c13b0:decide (Xf<(l1.length:Int))=true:=Yv c13;clear c13;obtain rfl:=Option.some.inj H;go_enter Try.func53,Try.ntmps53;go_wp2_with (first|((with_reducible refine gate_dst (N:=3) rfl ?_);refine Yz ?hg (N:=3) ?hd (cs:= #[.int .i64 Zb, .bool Zc, .slice Ze Za.length Zd]) (t:=32) ?hr ?_;(case hd=>rfl);(case hg=>rfl);(case hr=>first|(go_simp;done)|(go_simp;rfl));intro Xu hg w14 Zf hb;have n0_:=Ya (Yk (by repeat(first|(with_reducible first|exact HB.out|apply Ye|apply Yd|apply Yg)|exact HB.out)) hb);have n1_:=Ya (Zf);have n2_:=Ya ((by rw[hg];exact(Yi (by repeat(first|(with_reducible first|exact HB.out|apply Ye|apply Yd|apply Yg)|exact HB.out))):w.heap.size≤Xu));have n3_:=Ya ((by rw[hg];exact(Yi (by repeat(first|(with_reducible first|exact HB.out|apply Ye|apply Yd|apply Yg)|exact HB.out))):w.heap.size≤Xu));clear HB;have HB:=n0_;have Xy:=n1_;have GW507:=n2_;have Jy:=n3_;clear n0_ n1_ n2_ n3_;clear hb Zf hg)|((with_reducible refine gate_dst (N:=5) rfl ?_);refine Yz ?hg (N:=5) ?hd (cs:= #[.int .i64 Xf, .bool false]) (t:=113) ?hr ?_;(case hd=>rfl);(case hg=>rfl);(case hr=>first|(go_simp;done)|(go_simp;rfl));intro Wr hg w15 Zf hb;have n0_:=Ya (Yn (g:=Xu) (o:= .cells #[.int .i64 Zb, .bool Zc, .slice Ze Za.length Zd] 32 (0,0)) (by(with_reducible repeat(first|refine Yl ?_ _|refine Ym ?_|refine Yj ?_ _));exact Xy.out) hb);have n1_:=Ya (Yk (by repeat(first|(with_reducible first|exact HB.out|apply Ye|apply Yd|apply Yg|refine Yh ?_ Jy.out)|exact HB.out)) hb);have n2_:=Ya (Zf);have n3_:=Ya ((by rw[hg];exact(Yi (by repeat(first|(with_reducible first|exact HB.out|apply Ye|apply Yd|apply Yg|refine Yh ?_ Jy.out)|exact HB.out))):w.heap.size≤Wr));have n4_:=Ya ((by rw[hg];exact(Yi (by repeat(first|(with_reducible first|exact HB.out|apply Ye|apply Yd|apply Yg|refine Yh ?_ Jy.out)|exact HB.out))):w.heap.size≤Wr));have n5_:=Ya ((by rw[hg];exact Nat.ne_of_lt (blk_lt (g:=Xu) (o:= .cells #[.int .i64 Zb, .bool Zc, .slice Ze Za.length Zd] 32 (0,0)) (by(with_reducible repeat(first|refine Yl ?_ _|refine Ym ?_|refine Yj ?_ _));exact Xy.out)):Xu≠Wr));have n6_:=Ya ((by rw[hg];exact Nat.ne_of_gt (blk_lt (g:=Xu) (o:= .cells #[.int .i64 Zb, .bool Zc, .slice Ze Za.length Zd] 32 (0,0)) (by(with_reducible repeat(first|refine Yl ?_ _|refine Ym ?_|refine Yj ?_ _));exact Xy.out)):Wr≠Xu));clear Xy;clear HB;have Xy:=n0_;have HB:=n1_;have Us:=n2_;have GW508:=n3_;have GE508:=n4_;have Jb:=n5_;have Jc:=n6_;clear n0_ n1_ n2_ n3_ n4_ n5_ n6_;clear hb Zf hg;have hnb16:=Jc.out;have hnc16:=Jb.out;have Vj:w15.cell? ⟨Wr,0,none⟩=some (.int .i64 Xf):=(Yc Us.out 0).trans rfl;have Vk:w15.cell? ⟨Wr,1,none⟩=some (.bool false):=(Yc Us.out 1).trans rfl;have Vl:=Yf Us.out 0;have Vm:=Yf Us.out 1;have hcz18_0:w15.cell? ⟨Xu,0,none⟩=some (.int .i64 Zb):=(Yc Xy.out 0).trans rfl;have hcz18_1:w15.cell? ⟨Xu,1,none⟩=some (.bool Zc):=(Yc Xy.out 1).trans rfl;have hcz18_2:w15.cell? ⟨Xu,2,none⟩=some (.slice Ze Za.length Zd):=(Yc Xy.out 2).trans rfl;have hfz18_0:=Yf Xy.out 0;have hfz18_1:=Yf Xy.out 1;have hfz18_2:=Yf Xy.out 2;have p510:0≤(Xf:Int):=Yu (by first|(with_reducible assumption)|assumption);have q510:Xf<(Za.length:Int):=Yu (by first|(with_reducible assumption)|assumption);obtain⟨ad510,e510,hx510_0,hx510_1,hx510_2,hx510_3⟩:=at_T73 Zo.out Xf p510 q510;cases e510;replace hx510_0:=(HB.out.cell (Yb w _ hx510_0)).trans hx510_0;replace hx510_1:=(HB.out.cell (Yb w _ hx510_1)).trans hx510_1;replace hx510_2:=(HB.out.cell (Yb w _ hx510_2)).trans hx510_2;replace hx510_3:=(HB.out.cell (Yb w _ hx510_3)).trans hx510_3;replace p510:=eq_true p510;replace q510:=eq_true q510;have p511:0≤(Xf:Int):=Yu (by first|(with_reducible assumption)|assumption);have q511:Xf<(l1.length:Int):=Yu (by first|(with_reducible assumption)|assumption);obtain⟨ad511,e511,hx511_0⟩:=Kd.at_int HR1.out Xf p511 q511;cases e511;replace hx511_0:=(HB.out.cell (Yb w _ hx511_0)).trans hx511_0;replace p511:=eq_true p511;replace q511:=eq_true q511));repeat(go_quiet (first|((with_reducible refine gate_dst (N:=3) rfl ?_);refine Yz ?hg (N:=3) ?hd (cs:= #[.int .i64 Zb, .bool Zc, .slice Ze Za.length Zd]) (t:=32) ?hr ?_;(case hd=>rfl);(case hg=>rfl);(case hr=>first|(go_simp;done)|(go_simp;rfl));intro Xu hg w14 Zf hb;have n0_:=Ya (Yk (by repeat(first|(with_reducible first|exact HB.out|apply Ye|apply Yd|apply Yg)|exact HB.out)) hb);have n1_:=Ya (Zf);have n2_:=Ya ((by rw[hg];exact(Yi (by repeat(first|(with_reducible first|exact HB.out|apply Ye|apply Yd|apply Yg)|exact HB.out))):w.heap.size≤Xu));have n3_:=Ya ((by rw[hg];exact(Yi (by repeat(first|(with_reducible first|exact HB.out|apply Ye|apply Yd|apply Yg)|exact HB.out))):w.heap.size≤Xu));clear HB;have HB:=n0_;have Xy:=n1_;have GW507:=n2_;have Jy:=n3_;clear n0_ n1_ n2_ n3_;clear hb Zf hg)|((with_reducible refine gate_dst (N:=5) rfl ?_);refine Yz ?hg (N:=5) ?hd (cs:= #[.int .i64 Xf, .bool false]) (t:=113) ?hr ?_;(case hd=>rfl);(case hg=>rfl);(case hr=>first|(go_simp;done)|(go_simp;rfl));intro Wr hg w15 Zf hb;have n0_:=Ya (Yn (g:=Xu) (o:= .cells #[.int .i64 Zb, .bool Zc, .slice Ze Za.length Zd] 32 (0,0)) (by(with_reducible repeat(first|refine Yl ?_ _|refine Ym ?_|refine Yj ?_ _));exact Xy.out) hb);have n1_:=Ya (Yk (by repeat(first|(with_reducible first|exact HB.out|apply Ye|apply Yd|apply Yg|refine Yh ?_ Jy.out)|exact HB.out)) hb);have n2_:=Ya (Zf);have n3_:=Ya ((by rw[hg];exact(Yi (by repeat(first|(with_reducible first|exact HB.out|apply Ye|apply Yd|apply Yg|refine Yh ?_ Jy.out)|exact HB.out))):w.heap.size≤Wr));have n4_:=Ya ((by rw[hg];exact(Yi (by repeat(first|(with_reducible first|exact HB.out|apply Ye|apply Yd|apply Yg|refine Yh ?_ Jy.out)|exact HB.out))):w.heap.size≤Wr));have n5_:=Ya ((by rw[hg];exact Nat.ne_of_lt (blk_lt (g:=Xu) (o:= .cells #[.int .i64 Zb, .bool Zc, .slice Ze Za.length Zd] 32 (0,0)) (by(with_reducible repeat(first|refine Yl ?_ _|refine Ym ?_|refine Yj ?_ _));exact Xy.out)):Xu≠Wr));have n6_:=Ya ((by rw[hg];exact Nat.ne_of_gt (blk_lt (g:=Xu) (o:= .cells #[.int .i64 Zb, .bool Zc, .slice Ze Za.length Zd] 32 (0,0)) (by(with_reducible repeat(first|refine Yl ?_ _|refine Ym ?_|refine Yj ?_ _));exact Xy.out)):Wr≠Xu));clear Xy;clear HB;have Xy:=n0_;have HB:=n1_;have Us:=n2_;have GW508:=n3_;have GE508:=n4_;have Jb:=n5_;have Jc:=n6_;clear n0_ n1_ n2_ n3_ n4_ n5_ n6_;clear hb Zf hg;have hnb16:=Jc.out;have hnc16:=Jb.out;have Vj:w15.cell? ⟨Wr,0,none⟩=some (.int .i64 Xf):=(Yc Us.out 0).trans rfl;have Vk:w15.cell? ⟨Wr,1,none⟩=some (.bool false):=(Yc Us.out 1).trans rfl;have Vl:=Yf Us.out 0;have Vm:=Yf Us.out 1;have hcz18_0:w15.cell? ⟨Xu,0,none⟩=some (.int .i64 Zb):=(Yc Xy.out 0).trans rfl;have hcz18_1:w15.cell? ⟨Xu,1,none⟩=some (.bool Zc):=(Yc Xy.out 1).trans rfl;have hcz18_2:w15.cell? ⟨Xu,2,none⟩=some (.slice Ze Za.length Zd):=(Yc Xy.out 2).trans rfl;have hfz18_0:=Yf Xy.out 0;have hfz18_1:=Yf Xy.out 1;have hfz18_2:=Yf Xy.out 2;have p510:0≤(Xf:Int):=Yu (by first|(with_reducible assumption)|assumption);have q510:Xf<(Za.length:Int):=Yu (by first|(with_reducible assumption)|assumption);obtain⟨ad510,e510,hx510_0,hx510_1,hx510_2,hx510_3⟩:=at_T73 Zo.out Xf p510 q510;cases e510;replace hx510_0:=(HB.out.cell (Yb w _ hx510_0)).trans hx510_0;replace hx510_1:=(HB.out.cell (Yb w _ hx510_1)).trans hx510_1;replace hx510_2:=(HB.out.cell (Yb w _ hx510_2)).trans hx510_2;replace hx510_3:=(HB.out.cell (Yb w _ hx510_3)).trans hx510_3;replace p510:=eq_true p510;replace q510:=eq_true q510;have p511:0≤(Xf:Int):=Yu (by first|(with_reducible assumption)|assumption);have q511:Xf<(l1.length:Int):=Yu (by first|(with_reducible assumption)|assumption);obtain⟨ad511,e511,hx511_0⟩:=Kd.at_int HR1.out Xf p511 q511;cases e511;replace hx511_0:=(HB.out.cell (Yb w _ hx511_0)).trans hx511_0;replace p511:=eq_true p511;replace q511:=eq_true q511));try go_wp2_with (first|((with_reducible refine gate_dst (N:=3) rfl ?_);refine Yz ?hg (N:=3) ?hd (cs:= #[.int .i64 Zb, .bool Zc, .slice Ze Za.length Zd]) (t:=32) ?hr ?_;(case hd=>rfl);(case hg=>rfl);(case hr=>first|(go_simp;done)|(go_simp;rfl));intro Xu hg w14 Zf hb;have n0_:=Ya (Yk (by repeat(first|(with_reducible first|exact HB.out|apply Ye|apply Yd|apply Yg)|exact HB.out)) hb);have n1_:=Ya (Zf);have n2_:=Ya ((by rw[hg];exact(Yi (by repeat(first|(with_reducible first|exact HB.out|apply Ye|apply Yd|apply Yg)|exact HB.out))):w.heap.size≤Xu));have n3_:=Ya ((by rw[hg];exact(Yi (by repeat(first|(with_reducible first|exact HB.out|apply Ye|apply Yd|apply Yg)|exact HB.out))):w.heap.size≤Xu));clear HB;have HB:=n0_;have Xy:=n1_;have GW507:=n2_;have Jy:=n3_;clear n0_ n1_ n2_ n3_;clear hb Zf hg)|((with_reducible refine gate_dst (N:=5) rfl ?_);refine Yz ?hg (N:=5) ?hd (cs:= #[.int .i64 Xf, .bool false]) (t:=113) ?hr ?_;(case hd=>rfl);(case hg=>rfl);(case hr=>first|(go_simp;done)|(go_simp;rfl));intro Wr hg w15 Zf hb;have n0_:=Ya (Yn (g:=Xu) (o:= .cells #[.int .i64 Zb, .bool Zc, .slice Ze Za.length Zd] 32 (0,0)) (by(with_reducible repeat(first|refine Yl ?_ _|refine Ym ?_|refine Yj ?_ _));exact Xy.out) hb);have n1_:=Ya (Yk (by repeat(first|(with_reducible first|exact HB.out|apply Ye|apply Yd|apply Yg|refine Yh ?_ Jy.out)|exact HB.out)) hb);have n2_:=Ya (Zf);have n3_:=Ya ((by rw[hg];exact(Yi (by repeat(first|(with_reducible first|exact HB.out|apply Ye|apply Yd|apply Yg|refine Yh ?_ Jy.out)|exact HB.out))):w.heap.size≤Wr));have n4_:=Ya ((by rw[hg];exact(Yi (by repeat(first|(with_reducible first|exact HB.out|apply Ye|apply Yd|apply Yg|refine Yh ?_ Jy.out)|exact HB.out))):w.heap.size≤Wr));have n5_:=Ya ((by rw[hg];exact Nat.ne_of_lt (blk_lt (g:=Xu) (o:= .cells #[.int .i64 Zb, .bool Zc, .slice Ze Za.length Zd] 32 (0,0)) (by(with_reducible repeat(first|refine Yl ?_ _|refine Ym ?_|refine Yj ?_ _));exact Xy.out)):Xu≠Wr));have n6_:=Ya ((by rw[hg];exact Nat.ne_of_gt (blk_lt (g:=Xu) (o:= .cells #[.int .i64 Zb, .bool Zc, .slice Ze Za.length Zd] 32 (0,0)) (by(with_reducible repeat(first|refine Yl ?_ _|refine Ym ?_|refine Yj ?_ _));exact Xy.out)):Wr≠Xu));clear Xy;clear HB;have Xy:=n0_;have HB:=n1_;have Us:=n2_;have GW508:=n3_;have GE508:=n4_;have Jb:=n5_;have Jc:=n6_;clear n0_ n1_ n2_ n3_ n4_ n5_ n6_;clear hb Zf hg;have hnb16:=Jc.out;have hnc16:=Jb.out;have Vj:w15.cell? ⟨Wr,0,none⟩=some (.int .i64 Xf):=(Yc Us.out 0).trans rfl;have Vk:w15.cell? ⟨Wr,1,none⟩=some (.bool false):=(Yc Us.out 1).trans rfl;have Vl:=Yf Us.out 0;have Vm:=Yf Us.out 1;have hcz18_0:w15.cell? ⟨Xu,0,none⟩=some (.int .i64 Zb):=(Yc Xy.out 0).trans rfl;have hcz18_1:w15.cell? ⟨Xu,1,none⟩=some (.bool Zc):=(Yc Xy.out 1).trans rfl;have hcz18_2:w15.cell? ⟨Xu,2,none⟩=some (.slice Ze Za.length Zd):=(Yc Xy.out 2).trans rfl;have hfz18_0:=Yf Xy.out 0;have hfz18_1:=Yf Xy.out 1;have hfz18_2:=Yf Xy.out 2;have p510:0≤(Xf:Int):=Yu (by first|(with_reducible assumption)|assumption);have q510:Xf<(Za.length:Int):=Yu (by first|(with_reducible assumption)|assumption);obtain⟨ad510,e510,hx510_0,hx510_1,hx510_2,hx510_3⟩:=at_T73 Zo.out Xf p510 q510;cases e510;replace hx510_0:=(HB.out.cell (Yb w _ hx510_0)).trans hx510_0;replace hx510_1:=(HB.out.cell (Yb w _ hx510_1)).trans hx510_1;replace hx510_2:=(HB.out.cell (Yb w _ hx510_2)).trans hx510_2;replace hx510_3:=(HB.out.cell (Yb w _ hx510_3)).trans hx510_3;replace p510:=eq_true p510;replace q510:=eq_true q510;have p511:0≤(Xf:Int):=Yu (by first|(with_reducible assumption)|assumption);have q511:Xf<(l1.length:Int):=Yu (by first|(with_reducible assumption)|assumption);obtain⟨ad511,e511,hx511_0⟩:=Kd.at_int HR1.out Xf p511 q511;cases e511;replace hx511_0:=(HB.out.cell (Yb w _ hx511_0)).trans hx511_0;replace p511:=eq_true p511;replace q511:=eq_true q511)))
 go_ret;exact⟨by first|rfl|(simp[errW_none,errW_some]<;>rfl)|(simp[*,errW_none,errW_some]<;>rfl),by repeat(first|(with_reducible first|exact HB.out|apply Ye|apply Yd|apply Yg|refine Yh ?_ Jy.out|refine Yh ?_ GE508.out)|exact HB.out)⟩
end P
namespace P
attribute [local go_sem] max2_int min2_int max_two min_two max_three min_three max_four min_four
def ebbtideref08_Bottle.l0:Nat→List Int→List (S113)→Int→Int→Int→Bool→List (S73)→Option (Int)
 |0,_,_,_,_,_,_,_=>none
 |k+1,x1,x2,x7,x8,x513000,x513001,x513002=>if x8<(x2.length:Int) then(if 0≤x8 then((ebbtideref07_Left.f x513000 x513001 x513002 x1 ((rd_T113 x2 x8).f0) ((rd_T113 x2 x8).f1)).bind fun t516=>(ebbtideref08_Bottle.l0 k x1 x2 (mn x7 t516) (wrap64 (x8+1)) x513000 x513001 x513002)) else(none)) else(some x7)
def ebbtideref08_Bottle.f (k:Nat) (Zb:Int) (Zc:Bool) (Za:List (S73)) (l1:List Int) (l2:List (S113)):Option (Int):=if 0<(l2.length:Int) then((ebbtideref07_Left.f Zb Zc Za l1 ((rd_T113 l2 0).f0) ((rd_T113 l2 0).f1)).bind fun t514=>(ebbtideref08_Bottle.l0 k l1 l2 t514 1 Zb Zc Za)) else(none)
def ebbtideref08_Bottle.T5:Bool × List (List Nat × List Nat):=(true,[([],[]),([],[]),([],[]),([],[]),([],[]),([3,4],[3,4]),([5],[5]),([1,2,6],[1,2,6]),([0,7],[0,7]),([8,7,0,1,2,3,4,5,6,7,8],[0,8])])
def ebbtideref08_Bottle.B5:List Nat:=[0,0,0,0,0,24,56,126,255,511]
theorem ebbtideref08_Bottle.tab5:rtab .any (opsOf Try.f43 5)=ebbtideref08_Bottle.T5:=by kernel_rfl
theorem ebbtideref08_Bottle.bits5:waitsOk ebbtideref08_Bottle.T5.2 ebbtideref08_Bottle.B5=true:=by kernel_rfl
set_option maxHeartbeats 8000000 in
set_option maxRecDepth 100000 in
theorem ebbtideref08_Bottle.calls (k:Nat) (Zb:Int) (Zc:Bool) (Ze:Option Addr) (Zd:Nat) (Za:List (S73)) (A1:Option Addr) (c1:Nat) (l1:List Int) (A2:Option Addr) (c2:Nat) (l2:List (S113)) (r:Int) (w:World) (Zx:Kd.C k73 w Ze Za.length Za) (Zy:Za.length≤Zd) (hr1:Kd.C (Kd.int .i64) w A1 l1.length l1) (hc1:l1.length≤c1) (hr2:Kd.C k113 w A2 l2.length l2) (hc2:l2.length≤c2) (h:ebbtideref08_Bottle.f k Zb Zc Za l1 l2=some r):
  Calls Try.prog 43 #[.agg #[.int .i64 Zb, .bool Zc, .slice Ze Za.length Zd], .slice A1 l1.length c1, .slice A2 l2.length c2] w fun e w'=>e= .returned (.int .i64 r)∧Below w.heap.size w w':=by
 have hu32:=Try.underlying32;have hu113:=Try.underlying113;have Zo:=Ya Zx;have Zz:=Ya Zy;clear Zx Zy;have HR1:=Ya hr1;have HC1:=Ya hc1;clear hr1 hc1;have HR2:=Ya hr2;have HC2:=Ya hc2;clear hr2 hc2;have HB:=Ya (Yo w.heap.size w);have H:(if 0<(l2.length:Int) then((ebbtideref07_Left.f Zb Zc Za l1 ((rd_T113 l2 0).f0) ((rd_T113 l2 0).f1)).bind fun t514=>(ebbtideref08_Bottle.l0 k l1 l2 t514 1 Zb Zc Za)) else(none))=some r:=h;clear h;by_cases c4:0<(l2.length:Int)
 rotate_left
 ·rw[Yy c4] at H
  exact absurd H (by simp)
 rw[Yx c4] at H;have c4b0:decide (0<(l2.length:Int))=true:=Yv c4;have c4b1:decide (0<l2.length)=true:=Yv (by omega);clear c4;replace H:=Option.bind_eq_some_iff.mp H;obtain⟨t514,A50,H⟩:=H;replace H:(ebbtideref08_Bottle.l0 k l1 l2 t514 1 Zb Zc Za)=some r:=H;have A5:=Ya A50;clear A50;have H':=Ya H;clear H;go_enter Try.func43,Try.ntmps43;try go_wp2_with (first|((with_reducible refine gate_dst (N:=3) rfl ?_);refine Yz ?hg (N:=3) ?hd (cs:= #[.int .i64 Zb, .bool Zc, .slice Ze Za.length Zd]) (t:=32) ?hr ?_;(case hd=>rfl);(case hg=>rfl);(case hr=>first|(go_simp;done)|(go_simp;rfl));intro gb512 hg w6 Zf hb;have n0_:=Ya (Yk (by repeat(first|(with_reducible first|exact HB.out|apply Ye|apply Yd|apply Yg)|exact HB.out)) hb);have n1_:=Ya (Zf);have n2_:=Ya ((by rw[hg];exact(Yi (by repeat(first|(with_reducible first|exact HB.out|apply Ye|apply Yd|apply Yg)|exact HB.out))):w.heap.size≤gb512));have n3_:=Ya ((by rw[hg];exact(Yi (by repeat(first|(with_reducible first|exact HB.out|apply Ye|apply Yd|apply Yg)|exact HB.out))):w.heap.size≤gb512));clear HB;have HB:=n0_;have Ut:=n1_;have GW512:=n2_;have GE512:=n3_;clear n0_ n1_ n2_ n3_;clear hb Zf hg))
 have n0_:=Ya (Ym Ut.out);have n1_:=Ya (Yg HB.out);clear Ut;clear HB;have Ut:=n0_;have HB:=n1_;clear n0_ n1_;have p513:0≤(0:Int):=(by omega);have q513:0<(l2.length:Int):=Yu (by first|(with_reducible assumption)|assumption);obtain⟨ad513,e513,hx513_0,hx513_1⟩:=at_T113 HR2.out 0 p513 q513;have hw513_1:=hx513_1
 (try rw[show ((0:Int)).toNat=0 from rfl] at hw513_1)
 (try rw[show 0 * 2=0 from rfl] at hw513_1)
 (try rw[Addr.add_zero'] at hw513_1)
 have hw513_0:=hx513_0
 (try rw[show ((0:Int)).toNat=0 from rfl] at hw513_0)
 (try rw[show 0 * 2=0 from rfl] at hw513_0)
 (try rw[Addr.add_zero'] at hw513_0)
 cases e513;have qi513:(0<l2.length)=True:=eq_true (by omega)
 (try rw[show ((0:Int)).toNat=0 from rfl] at hx513_0)
 (try rw[show 0 * 2=0 from rfl] at hx513_0)
 (try rw[Addr.add_zero'] at hx513_0)
 (try rw[show ((0:Int)).toNat=0 from rfl] at hx513_1)
 (try rw[show 0 * 2=0 from rfl] at hx513_1)
 (try rw[Addr.add_zero'] at hx513_1)
 replace hx513_0:=(HB.out.cell (Yb w _ hx513_0)).trans hx513_0;replace hx513_1:=(HB.out.cell (Yb w _ hx513_1)).trans hx513_1;replace p513:=eq_true p513;replace q513:=eq_true q513;refine start_ (n:=7) (S:=fun w'=>w'.cell? ⟨gb512,0,none⟩=some (.int .i64 Zb)∧w'.cell? ⟨gb512,1,none⟩=some (.bool Zc)∧w'.cell? ⟨gb512,2,none⟩=some (.slice Ze Za.length Zd)∧w'.cell? ad513=some (.int .i64 ((rd_T113 l2 0).f0))∧w'.cell? ⟨ad513.block,ad513.off+1,none⟩=some (.bool ((rd_T113 l2 0).f1))) (ds:=[]) #[false,false,false,false,false,false,false] (by kernel_rfl) rfl rfl ⟨(Yc Ut.out 0).trans rfl,(Yc Ut.out 1).trans rfl,(Yc Ut.out 2).trans rfl,((HB.out.cell (Yb w _ hw513_0)).trans hw513_0),((HB.out.cell (Yb w _ hw513_1)).trans hw513_1)⟩ (fun hHeld=> ?_);generalize w6.drew=w7 at Ut HB hx513_0 hx513_1 hHeld ⊢;refine pure_ (i:=1) (N:=some 10) (v:= ?_) (a':= ?_) #[false,true,false,false,false,false,false] rfl rfl (by kernel_rfl) (fun _ _ _ h=>h) (Or.inl ⟨by rfl,?_⟩) ?_ ?_
 rotate_left
 ·intro w'
  go_simp
  with_reducible rfl
 rotate_left
 ·simp only[Act.put,List.setIfInBounds_toArray,List.set_cons_zero,List.set_cons_succ,i64_w,i32_w]
  rfl
 refine pure_ (i:=2) (N:=some 11) (v:= ?_) (a':= ?_) #[false,true,true,false,false,false,false] rfl rfl (by kernel_rfl) (fun _ _ _ h=>h) (Or.inl ⟨by rfl,?_⟩) ?_ ?_
 rotate_left
 ·intro w'
  go_simp
  with_reducible rfl
 rotate_left
 ·simp only[Act.put,List.setIfInBounds_toArray,List.set_cons_zero,List.set_cons_succ,i64_w,i32_w]
  rfl
 refine pure_ (i:=3) (N:=some 12) (v:= ?_) (a':= ?_) #[false,true,true,true,false,false,false] rfl rfl (by kernel_rfl) (fun _ _ _ h=>h) (Or.inl ⟨by rfl,?_⟩) ?_ ?_
 rotate_left
 ·intro w'
  go_simp
  with_reducible rfl
 rotate_left
 ·simp only[Act.put,List.setIfInBounds_toArray,List.set_cons_zero,List.set_cons_succ,i64_w,i32_w]
  rfl
 refine take_ (i:=0) (N:=some 9) (v:= ?_) (a':= ?_) #[true,true,true,true,false,false,false] rfl rfl (by kernel_rfl) (fun _ _ _ h=>h) (Or.inl ⟨by rfl,?_⟩) hHeld ?_ ?_
 rotate_left
 ·rintro w' ⟨s0,s1,s2,s3,s4⟩
  go_simp
  with_reducible rfl
 rotate_left
 ·simp only[Act.put,List.setIfInBounds_toArray,List.set_cons_zero,List.set_cons_succ,i64_w,i32_w]
  rfl
 refine take_ (i:=4) (N:=some 13) (v:= ?_) (a':= ?_) #[true,true,true,true,true,false,false] rfl rfl (by kernel_rfl) (fun _ _ _ h=>h) (Or.inl ⟨by rfl,?_⟩) hHeld ?_ ?_
 rotate_left
 ·rintro w' ⟨s0,s1,s2,s3,s4⟩
  go_simp
  with_reducible rfl
 rotate_left
 ·simp only[Act.put,List.setIfInBounds_toArray,List.set_cons_zero,List.set_cons_succ,i64_w,i32_w]
  rfl
 refine one_ (i:=5) (N:=some 14) #[true,true,true,true,true,true,false] rfl rfl (by kernel_rfl) (by decide) (fun K hK=> ?_);refine goes_ Try.func53 (by kernel_rfl) rfl #[.agg #[.int .i64 Zb, .bool Zc, .slice Ze Za.length Zd], .slice A1 l1.length c1, .agg #[.int .i64 ((rd_T113 l2 0).f0), .bool ((rd_T113 l2 0).f1)]] (by rfl) rfl rfl (by(try simp only[List.map_toArray,List.map_cons,List.map_nil]);first|done|rfl|(simp only[List.length_drop,List.length_take];rfl)) ?_
 with_reducible refine(ebbtideref07_Left.calls Zb Zc _ _ Za _ _ l1 ((rd_T113 l2 0).f0) ((rd_T113 l2 0).f1) t514 _ ?side1 ?side2 ?side3 ?side4 A5.out).mono ?_
 (case side1=>repeat(first|exact(Yt Zo.out HB.out)|(with_reducible refine Kd.C_alloc ?_ _)|(with_reducible refine Kd.C_drewN ?_ _)|(with_reducible refine Kd.C_drew ?_)))
 (case side2=>exact Zz.out)
 (case side3=>repeat(first|exact(Yt HR1.out HB.out)|(with_reducible refine Kd.C_alloc ?_ _)|(with_reducible refine Kd.C_drewN ?_ _)|(with_reducible refine Kd.C_drew ?_)))
 (case side4=>exact HC1.out)
 rintro e w8 ⟨rfl,hb⟩;refine⟨_,rfl,?_⟩;have n0_:=Ya (Yn (g:=gb512) (o:= .cells #[.int .i64 Zb, .bool Zc, .slice Ze Za.length Zd] 32 (0,0)) (by(with_reducible repeat(first|refine Yl ?_ _|refine Ym ?_|refine Yj ?_ _));exact Ut.out) hb);have n1_:=Ya (Yk (by repeat(first|(with_reducible first|exact HB.out|apply Ye|apply Yd|apply Yg|refine Yh ?_ GE512.out)|exact HB.out)) hb);clear Ut;clear HB;have Ut:=n0_;have HB:=n1_;clear n0_ n1_
 (try clear hb)
 (try clear hb2)
 (try clear hk)
 (try clear hi)
 refine hK.out _ _ ⟨(Yc Ut.out 0).trans rfl,(Yc Ut.out 1).trans rfl,(Yc Ut.out 2).trans rfl,((HB.out.cell (Yb w _ hw513_0)).trans hw513_0),((HB.out.cell (Yb w _ hw513_1)).trans hw513_1)⟩ (fun hHeld=> ?_);clear hK K;refine norm_ (a':= ?_) ?_ ?_
 rotate_left
 ·show Act.put _ (some 14) _=_
  simp only[Act.put,List.setIfInBounds_toArray,List.set_cons_zero,List.set_cons_succ,i64_w,i32_w];rfl
 refine pure_ (i:=6) (N:=some 7) (v:= ?_) (a':= ?_) #[true,true,true,true,true,true,true] rfl rfl (by kernel_rfl) (fun _ _ _ h=>h) (Or.inl ⟨by rfl,?_⟩) ?_ ?_
 rotate_left
 ·intro w'
  go_simp
  with_reducible rfl
 rotate_left
 ·simp only[Act.put,List.setIfInBounds_toArray,List.set_cons_zero,List.set_cons_succ,i64_w,i32_w]
  rfl
 refine done_ (by kernel_rfl) ?_;try go_wp2
 go_loopg [7,8] k (fun kq v7 v8 w'=> ∃ (Wj:Int) (Zg:Int),v7= .int .i64 Wj∧v8= .int .i64 Zg∧Aside0 (ebbtideref08_Bottle.l0 kq l1 l2 Wj Zg Zb Zc Za=some r)∧Aside0 (kq≤k)∧Aside0 (w'.heap[gb512]? =some (.cells #[.int .i64 Zb, .bool Zc,(.slice Ze Za.length Zd)] 32 (0,0)))∧Aside0 (Below w.heap.size w w'))
 case atStart=>exact⟨(t514),(1),(by first|rfl|(simp;done)|(simp[*];done)),(by first|rfl|(simp;done)|(simp[*];done)),H',⟨Nat.le_refl _⟩,⟨by(with_reducible repeat(first|refine Yl ?_ _|refine Ym ?_|refine Yj ?_ _));exact Ut.out⟩,⟨by repeat(first|(with_reducible first|exact HB.out|apply Ye|apply Yd|apply Yg|refine Yh ?_ GE512.out)|exact HB.out)⟩⟩
 case round=>
  clear H';try clear c1
  try clear c2
  try clear p2
  try clear c4
  try clear c4b0
  try clear c4b1
  try clear c5
  try clear p5
  try clear q5
  try clear hx5
  try clear qi5
  try clear hx513_0
  try clear hx513_1
  try clear p513
  try clear q513
  obtain⟨Wj,Zg,rfl,rfl,HA,HK1,Ut,HB⟩:=hrel;cases gk with
  |zero=>exact absurd HA.out (by simp[ebbtideref08_Bottle.l0])
  |succ k1=>
   have H:=HA.out;clear HA;simp only[ebbtideref08_Bottle.l0] at H;by_cases c9:Zg<(l2.length:Int)
   rotate_left
   ·rw[Yy c9] at H
    have c9b0:decide (Zg<(l2.length:Int))=false:=Yw c9;clear c9;obtain rfl:=Option.some.inj H;go_wp2;go_ret;exact⟨by first|rfl|(simp[errW_none,errW_some]<;>rfl)|(simp[*,errW_none,errW_some]<;>rfl),by repeat(first|(with_reducible first|exact HB.out|apply Ye|apply Yd|apply Yg|refine Yh ?_ GE512.out)|exact HB.out)⟩
   rw[Yx c9] at H;have c9b0:decide (Zg<(l2.length:Int))=true:=Yv c9;clear c9;by_cases c10:0≤Zg
   rotate_left
   ·rw[Yy c10] at H
    exact absurd H (by simp)
   rw[Yx c10] at H;have c10b0:decide (0≤Zg)=true:=Yv c10;clear c10;replace H:=Option.bind_eq_some_iff.mp H;obtain⟨t516,A110,H⟩:=H;replace H:(ebbtideref08_Bottle.l0 k1 l1 l2 (mn Wj t516) (wrap64 (Zg+1)) Zb Zc Za)=some r:=H;have A11:=Ya A110;clear A110;obtain⟨ji12,hji12⟩: ∃ j_:Int,(mn Wj t516)=j_:=⟨_,rfl⟩;replace H:(ebbtideref08_Bottle.l0 k1 l1 l2 ji12 (wrap64 (Zg+1)) Zb Zc Za)=some r:=by first|(rw[hji12] at H;exact H)|(simp only[hji12] at H ⊢;exact H)
   (try rw[hji12] at A11)
   have hji12_:(if t516<Wj then t516 else Wj)=ji12:=hji12;have H':=Ya H;clear H;try go_wp2
   have n0_:=Ya (Ym Ut.out);have n1_:=Ya (Yg HB.out);clear Ut;clear HB;have Ut:=n0_;have HB:=n1_;clear n0_ n1_;have p515:0≤(Zg:Int):=Yu (by first|(with_reducible assumption)|assumption);have q515:Zg<(l2.length:Int):=Yu (by first|(with_reducible assumption)|assumption);obtain⟨ad515,e515,hx515_0,hx515_1⟩:=at_T113 HR2.out Zg p515 q515;have hw515_1:=hx515_1;have hw515_0:=hx515_0;obtain rfl:ad513=ad515:=(by injection e515);replace hx515_0:=(HB.out.cell (Yb w _ hx515_0)).trans hx515_0;replace hx515_1:=(HB.out.cell (Yb w _ hx515_1)).trans hx515_1;replace p515:=eq_true p515;replace q515:=eq_true q515;refine start_ (n:=10) (S:=fun w'=>w'.cell? ⟨gb512,0,none⟩=some (.int .i64 Zb)∧w'.cell? ⟨gb512,1,none⟩=some (.bool Zc)∧w'.cell? ⟨gb512,2,none⟩=some (.slice Ze Za.length Zd)∧w'.cell? (ad513.add ((Zg).toNat * 2))=some (.int .i64 ((rd_T113 l2 Zg).f0))∧w'.cell? ⟨(ad513.add ((Zg).toNat * 2)).block,(ad513.add ((Zg).toNat * 2)).off+1,none⟩=some (.bool ((rd_T113 l2 Zg).f1))) (ds:=[]) #[false,false,false,false,false,false,false,false,false,false] (by kernel_rfl) rfl rfl ⟨(Yc Ut.out 0).trans rfl,(Yc Ut.out 1).trans rfl,(Yc Ut.out 2).trans rfl,((HB.out.cell (Yb w _ hw515_0)).trans hw515_0),((HB.out.cell (Yb w _ hw515_1)).trans hw515_1)⟩ (fun hHeld=> ?_);refine with_tabW ebbtideref08_Bottle.tab5 ebbtideref08_Bottle.bits5 (fun HT_ HW_=> ?_);generalize wr.drew=w13 at Ut HB hx515_0 hx515_1 hHeld ⊢;refine pure_ (i:=0) (N:=some 21) (v:= ?_) (a':= ?_) #[true,false,false,false,false,false,false,false,false,false] rfl rfl (any_of HT_.out (by kernel_rfl)) (fun _ _ _ h=>h) (Or.inl ⟨by rfl,?_⟩) ?_ ?_
   rotate_left
   ·intro w'
    go_simp
    with_reducible rfl
   rotate_left
   ·simp only[Act.put,List.setIfInBounds_toArray,List.set_cons_zero,List.set_cons_succ,i64_w,i32_w]
    rfl
   refine pure_ (i:=2) (N:=some 23) (v:= ?_) (a':= ?_) #[true,false,true,false,false,false,false,false,false,false] rfl rfl (any_of HT_.out (by kernel_rfl)) (fun _ _ _ h=>h) (Or.inl ⟨by rfl,?_⟩) ?_ ?_
   rotate_left
   ·intro w'
    go_simp
    with_reducible rfl
   rotate_left
   ·simp only[Act.put,List.setIfInBounds_toArray,List.set_cons_zero,List.set_cons_succ,i64_w,i32_w]
    rfl
   refine pure_ (i:=3) (N:=some 24) (v:= ?_) (a':= ?_) #[true,false,true,true,false,false,false,false,false,false] rfl rfl (any_of HT_.out (by kernel_rfl)) (fun _ _ _ h=>h) (Or.inl ⟨by rfl,?_⟩) ?_ ?_
   rotate_left
   ·intro w'
    go_simp
    with_reducible rfl
   rotate_left
   ·simp only[Act.put,List.setIfInBounds_toArray,List.set_cons_zero,List.set_cons_succ,i64_w,i32_w]
    rfl
   refine pure_ (i:=4) (N:=some 25) (v:= ?_) (a':= ?_) #[true,false,true,true,true,false,false,false,false,false] rfl rfl (any_of HT_.out (by kernel_rfl)) (fun _ _ _ h=>h) (Or.inl ⟨by rfl,?_⟩) ?_ ?_
   rotate_left
   ·intro w'
    go_simp
    with_reducible rfl
   rotate_left
   ·simp only[Act.put,List.setIfInBounds_toArray,List.set_cons_zero,List.set_cons_succ,i64_w,i32_w]
    rfl
   refine pure_ (i:=5) (N:=some 26) (v:= ?_) (a':= ?_) #[true,false,true,true,true,true,false,false,false,false] rfl rfl (any_of HT_.out (by kernel_rfl)) (fun _ _ _ h=>h) (Or.inl ⟨by rfl,?_⟩) ?_ ?_
   rotate_left
   ·intro w'
    go_simp
    with_reducible rfl
   rotate_left
   ·simp only[Act.put,List.setIfInBounds_toArray,List.set_cons_zero,List.set_cons_succ,i64_w,i32_w]
    rfl
   refine take_ (i:=1) (N:=some 22) (v:= ?_) (a':= ?_) #[true,true,true,true,true,true,false,false,false,false] rfl rfl (take_ofW HT_.out HW_.out (by kernel_rfl)) (fun _ _ _ h=>h) (Or.inl ⟨by rfl,?_⟩) hHeld ?_ ?_
   rotate_left
   ·rintro w' ⟨s0,s1,s2,s3,s4⟩
    go_simp
    with_reducible rfl
   rotate_left
   ·simp only[Act.put,List.setIfInBounds_toArray,List.set_cons_zero,List.set_cons_succ,i64_w,i32_w]
    rfl
   refine take_ (i:=6) (N:=some 27) (v:= ?_) (a':= ?_) #[true,true,true,true,true,true,true,false,false,false] rfl rfl (take_ofW HT_.out HW_.out (by kernel_rfl)) (fun _ _ _ h=>h) (Or.inl ⟨by rfl,?_⟩) hHeld ?_ ?_
   rotate_left
   ·rintro w' ⟨s0,s1,s2,s3,s4⟩
    go_simp
    with_reducible rfl
   rotate_left
   ·simp only[Act.put,List.setIfInBounds_toArray,List.set_cons_zero,List.set_cons_succ,i64_w,i32_w]
    rfl
   refine one_ (i:=7) (N:=some 28) #[true,true,true,true,true,true,true,true,false,false] rfl rfl (one_of HT_.out (by kernel_rfl)) (by decide) (fun K hK=> ?_);refine goes_ Try.func53 (by kernel_rfl) rfl #[.agg #[.int .i64 Zb, .bool Zc, .slice Ze Za.length Zd], .slice A1 l1.length c1, .agg #[.int .i64 ((rd_T113 l2 Zg).f0), .bool ((rd_T113 l2 Zg).f1)]] (by rfl) rfl rfl (by(try simp only[List.map_toArray,List.map_cons,List.map_nil]);first|done|rfl|(simp only[List.length_drop,List.length_take];rfl)) ?_
   with_reducible refine(ebbtideref07_Left.calls Zb Zc _ _ Za _ _ l1 ((rd_T113 l2 Zg).f0) ((rd_T113 l2 Zg).f1) t516 _ ?side1 ?side2 ?side3 ?side4 A11.out).mono ?_
   (case side1=>repeat(first|exact(Yt Zo.out HB.out)|(with_reducible refine Kd.C_alloc ?_ _)|(with_reducible refine Kd.C_drewN ?_ _)|(with_reducible refine Kd.C_drew ?_)))
   (case side2=>exact Zz.out)
   (case side3=>repeat(first|exact(Yt HR1.out HB.out)|(with_reducible refine Kd.C_alloc ?_ _)|(with_reducible refine Kd.C_drewN ?_ _)|(with_reducible refine Kd.C_drew ?_)))
   (case side4=>exact HC1.out)
   rintro e w14 ⟨rfl,hb⟩;refine⟨_,rfl,?_⟩;have n0_:=Ya (Yn (g:=gb512) (o:= .cells #[.int .i64 Zb, .bool Zc, .slice Ze Za.length Zd] 32 (0,0)) (by(with_reducible repeat(first|refine Yl ?_ _|refine Ym ?_|refine Yj ?_ _));exact Ut.out) hb);have n1_:=Ya (Yk (by repeat(first|(with_reducible first|exact HB.out|apply Ye|apply Yd|apply Yg|refine Yh ?_ GE512.out)|exact HB.out)) hb);clear Ut;clear HB;have Ut:=n0_;have HB:=n1_;clear n0_ n1_
   (try clear hb)
   (try clear hb2)
   (try clear hk)
   (try clear hi)
   refine hK.out _ _ ⟨(Yc Ut.out 0).trans rfl,(Yc Ut.out 1).trans rfl,(Yc Ut.out 2).trans rfl,((HB.out.cell (Yb w _ hw515_0)).trans hw515_0),((HB.out.cell (Yb w _ hw515_1)).trans hw515_1)⟩ (fun hHeld=> ?_);clear hK K;refine norm_ (a':= ?_) ?_ ?_
   rotate_left
   ·show Act.put _ (some 28) _=_
    simp only[Act.put,List.setIfInBounds_toArray,List.set_cons_zero,List.set_cons_succ,i64_w,i32_w];rfl
   refine pure_ (i:=8) (N:=some 29) (v:= ?_) (a':= ?_) #[true,true,true,true,true,true,true,true,true,false] rfl rfl (any_of HT_.out (by kernel_rfl)) (fun _ _ _ h=>h) (Or.inl ⟨by rfl,?_⟩) ?_ ?_
   rotate_left
   ·intro w'
    go_simp
    with_reducible rfl
   rotate_left
   ·simp only[Act.put,List.setIfInBounds_toArray,List.set_cons_zero,List.set_cons_succ,i64_w,i32_w]
    rfl
   refine pure_ (i:=9) (N:=some 7) (v:= ?_) (a':= ?_) #[true,true,true,true,true,true,true,true,true,true] rfl rfl (any_of HT_.out (by kernel_rfl)) (fun _ _ _ h=>h) (Or.inl ⟨by rfl,?_⟩) ?_ ?_
   rotate_left
   ·intro w'
    go_simp
    with_reducible rfl
   rotate_left
   ·simp only[Act.put,List.setIfInBounds_toArray,List.set_cons_zero,List.set_cons_succ,i64_w,i32_w]
    rfl
   refine done_ (done_of HT_.out (by kernel_rfl)) ?_;try go_wp2
   go_roundg k1
   case measure=>have:=HK1.out;omega
   case rel=>exact⟨(ji12),(wrap64 (Zg+1)),(by first|rfl|(simp;done)|(simp only[← hji12]<;>(first|rfl|simp))|(simp[*];done)),(by first|rfl|(simp;done)|(simp[*];done)),H',⟨by have:=HK1.out;omega⟩,⟨by(with_reducible repeat(first|refine Yl ?_ _|refine Ym ?_|refine Yj ?_ _));exact Ut.out⟩,⟨by repeat(first|(with_reducible first|exact HB.out|apply Ye|apply Yd|apply Yg|refine Yh ?_ GE512.out)|exact HB.out)⟩⟩
end P
namespace P
attribute [local go_sem] max2_int min2_int max_two min_two max_three min_three max_four min_four
def ebbtideref09_Best.l0:Nat→Int→Int→List Int→Int→Bool→List (S73)→Option (List Int)
 |0,_,_,_,_,_,_=>none
 |k+1,x1,x2,x7,x518000,x518001,x518002=>(ebbtideref07_Steps.f k x518000 x518001 x518002 x7).bind fun t521=>((ebbtideref08_Way.f x518000 x518001 x518002 x1 x2 t521).bind fun bt524=>(if bt524.2=true then((ebbtideref08_Bottle.f k x518000 x518001 x518002 x7 bt524.1).bind fun t528=>((ebbtideref07_Pushed.f k x7 bt524.1 t528).bind fun t529=>(ebbtideref09_Best.l0 k x1 x2 t529 x518000 x518001 x518002))) else(some x7)))
def ebbtideref09_Best.f (k:Nat) (Zb:Int) (Zc:Bool) (Za:List (S73)) (a1:Int) (a2:Int):Option (List Int):=if 0≤(Za.length:Int) then(if ((Za.length:Int):Int).toNat≤35184372088832 then(ebbtideref09_Best.l0 k a1 a2 (List.replicate ((Za.length:Int):Int).toNat 0) Zb Zc Za) else(none)) else(none)
def ebbtideref09_Best.T2:Bool × List (List Nat × List Nat):=(true,[([],[]),([],[]),([],[]),([],[]),([],[]),([3,4],[3,4]),([0,1,2,5,5],[0,1,2,5]),([6],[6]),([7],[7]),([7],[7]),([8,6,0,1,2,3,4,5,6,7,8],[8]),([9,10,0,1,2,3,4,5,6,7,8,9,10],[9])])
def ebbtideref09_Best.B2:List Nat:=[0,0,0,0,0,24,63,127,255,255,511,2047]
theorem ebbtideref09_Best.tab2:rtab .any (opsOf Try.f30 2)=ebbtideref09_Best.T2:=by kernel_rfl
theorem ebbtideref09_Best.bits2:waitsOk ebbtideref09_Best.T2.2 ebbtideref09_Best.B2=true:=by kernel_rfl
set_option maxHeartbeats 8000000 in
set_option maxRecDepth 100000 in
theorem ebbtideref09_Best.calls (k:Nat) (Zb:Int) (Zc:Bool) (Ze:Option Addr) (Zd:Nat) (Za:List (S73)) (a1:Int) (a2:Int) (r:List Int) (w:World) (Zx:Kd.C k73 w Ze Za.length Za) (Zy:Za.length≤Zd) (h:ebbtideref09_Best.f k Zb Zc Za a1 a2=some r):
  Calls Try.prog 30 #[.agg #[.int .i64 Zb, .bool Zc, .slice Ze Za.length Zd], .int .i64 a1, .int .i64 a2] w fun e w'=> ∃ v0_:Value,e= .returned (v0_)∧Kd.R (Kd.int .i64) 3 w' w.heap.size (fun _=>True) v0_ r∧Below w.heap.size w w':=by
 have hu32:=Try.underlying32;have Zo:=Ya Zx;have Zz:=Ya Zy;clear Zx Zy;have HB:=Ya (Yo w.heap.size w);have H:(if 0≤(Za.length:Int) then(if ((Za.length:Int):Int).toNat≤35184372088832 then(ebbtideref09_Best.l0 k a1 a2 (List.replicate ((Za.length:Int):Int).toNat 0) Zb Zc Za) else(none)) else(none))=some r:=h;clear h;by_cases c4:0≤(Za.length:Int)
 rotate_left
 ·rw[Yy c4] at H
  exact absurd H (by simp)
 rw[Yx c4] at H;have c4b0:=eq_true c4;have c4b1:decide (0≤(Za.length:Int))=true:=Yv c4;clear c4;by_cases c5:((Za.length:Int):Int).toNat≤35184372088832
 rotate_left
 ·rw[Yy c5] at H
  exact absurd H (by simp)
 rw[Yx c5] at H;have c5b0:=eq_true c5;have c5b1:decide (((Za.length:Int):Int).toNat≤35184372088832)=true:=Yv c5;clear c5;obtain⟨y518,hy518⟩: ∃ y_:List Int,y_=(List.replicate ((Za.length:Int):Int).toNat 0):=⟨_,rfl⟩;replace H:(ebbtideref09_Best.l0 k a1 a2 y518 Zb Zc Za)=some r:=by first|(rw[hy518];with_reducible exact H)|(have H2_:=(Option.bind_some _ _).symm.trans H;rw[hy518];with_reducible exact H2_)|(have H2_:=(Option.bind_some _ _).symm.trans H;with_reducible exact H2_)|with_reducible exact H|(rw[hy518];exact H)|exact H
 have Ny518:=Ya hy518;clear hy518;have H':=Ya H;clear H;go_enter Try.func30,Try.ntmps30;go_wp2_with (first|((with_reducible refine gate_dst (N:=3) rfl ?_);refine Yz ?hg (N:=3) ?hd (cs:= #[.int .i64 Zb, .bool Zc, .slice Ze Za.length Zd]) (t:=32) ?hr ?_;(case hd=>rfl);(case hg=>rfl);(case hr=>first|(go_simp;done)|(go_simp;rfl));intro gb517 hg w6 Zf hb;have n0_:=Ya (Yk (by repeat(first|(with_reducible first|exact HB.out|apply Ye|apply Yd|apply Yg)|exact HB.out)) hb);have n1_:=Ya (Zf);have n2_:=Ya ((by rw[hg];exact(Yi (by repeat(first|(with_reducible first|exact HB.out|apply Ye|apply Yd|apply Yg)|exact HB.out))):w.heap.size≤gb517));have n3_:=Ya ((by rw[hg];exact(Yi (by repeat(first|(with_reducible first|exact HB.out|apply Ye|apply Yd|apply Yg)|exact HB.out))):w.heap.size≤gb517));clear HB;have HB:=n0_;have Xp:=n1_;have GW517:=n2_;have GE517:=n3_;clear n0_ n1_ n2_ n3_;clear hb Zf hg;have hcz7_0:w6.cell? ⟨gb517,0,none⟩=some (.int .i64 Zb):=(Yc Xp.out 0).trans rfl;have hcz7_1:w6.cell? ⟨gb517,1,none⟩=some (.bool Zc):=(Yc Xp.out 1).trans rfl;have hcz7_2:w6.cell? ⟨gb517,2,none⟩=some (.slice Ze Za.length Zd):=(Yc Xp.out 2).trans rfl;have hfz7_0:=Yf Xp.out 0;have hfz7_1:=Yf Xp.out 1;have hfz7_2:=Yf Xp.out 2)|((with_reducible refine gate_dst (N:=13) rfl ?_);refine Kd.R_make (Kd.int .i64) _ 3 rfl (N:=13) rfl 56 _ _ rfl (Za.length:Int) rfl rfl Try.underlying56 (.int .i64 0) 8 info3 rfl (by decide) (by omega) 0 (ok:=fun _=>True) (okp:=fun _=>True) rfl (fun _ hk=>hk) trivial (Yu (by first|(with_reducible assumption)|assumption)) (Nat.le_trans (Nat.mul_le_mul_right _ (Yu (by first|(with_reducible assumption)|assumption):(Za.length:Int).toNat≤35184372088832)) (by omega)) (Yo _ _) (Nat.le_refl _) ?_;intro v519 w8 ho9 hb hg_ hnew_;clear hg_ hnew_;(first|rw[← Ny518.out] at ho9|(simp only[Int.reduceToNat] at ho9;rw[← Ny518.out] at ho9));have n0_:=Ya (Kd.R_lower ho9 (Yi (by repeat(first|(with_reducible first|exact HB.out|apply Ye|apply Yd|apply Yg|refine Yh ?_ GE517.out)|exact HB.out))));have n1_:=Ya (Yn (g:=gb517) (o:= .cells #[.int .i64 Zb, .bool Zc, .slice Ze Za.length Zd] 32 (0,0)) (by(with_reducible repeat(first|refine Yl ?_ _|refine Ym ?_|refine Yj ?_ _));exact Xp.out) hb);have n2_:=Ya (Yk (by repeat(first|(with_reducible first|exact HB.out|apply Ye|apply Yd|apply Yg|refine Yh ?_ GE517.out)|exact HB.out)) hb);clear Xp;clear HB;have HO520:=n0_;have Xp:=n1_;have HB:=n2_;clear n0_ n1_ n2_;clear hb ho9));go_loopg [7] k (fun kq v7 w'=> ∃ (Wj:List Int),Aside0 (ebbtideref09_Best.l0 kq a1 a2 Wj Zb Zc Za=some r)∧Aside0 (kq≤k)∧Aside0 (Kd.R (Kd.int .i64) 3 w' w.heap.size (fun _=>True) v7 Wj)∧Aside0 (w'.heap[gb517]? =some (.cells #[.int .i64 Zb, .bool Zc,(.slice Ze Za.length Zd)] 32 (0,0)))∧Aside0 (Below w.heap.size w w'))
 case atStart=>exact⟨(y518),H',⟨Nat.le_refl _⟩,⟨by(with_reducible repeat(first|apply Yr|apply Yq|apply Yp));exact HO520.out⟩,⟨by(with_reducible repeat(first|refine Yl ?_ _|refine Ym ?_|refine Yj ?_ _));exact Xp.out⟩,⟨by repeat(first|(with_reducible first|exact HB.out|apply Ye|apply Yd|apply Yg|refine Yh ?_ GE517.out)|exact HB.out)⟩⟩
 case round=>
  clear H';try clear p2
  try clear c3
  try clear c4
  try clear c4b0
  try clear c4b1
  try clear c5
  try clear c5b0
  try clear c5b1
  try clear hcz7_0
  try clear hcz7_1
  try clear hcz7_2
  try clear hfz7_0
  try clear hfz7_1
  try clear hfz7_2
  obtain⟨Wj,HA,HK1,HO_7,Xp,HB⟩:=hrel;cases gk with
  |zero=>exact absurd HA.out (by simp[ebbtideref09_Best.l0])
  |succ k1=>
   have H:=HA.out;clear HA;simp only[ebbtideref09_Best.l0] at H;replace H:=Option.bind_eq_some_iff.mp H;obtain⟨t521,A100,H⟩:=H;replace H:((ebbtideref08_Way.f Zb Zc Za a1 a2 t521).bind fun bt524=>(if bt524.2=true then((ebbtideref08_Bottle.f k1 Zb Zc Za Wj bt524.1).bind fun t528=>((ebbtideref07_Pushed.f k1 Wj bt524.1 t528).bind fun t529=>(ebbtideref09_Best.l0 k1 a1 a2 t529 Zb Zc Za))) else(some Wj)))=some r:=H;have A10:=Ya A100;clear A100;replace H:=Option.bind_eq_some_iff.mp H;obtain⟨⟨t524,t527⟩,A110,H⟩:=H;replace H:(if t527=true then((ebbtideref08_Bottle.f k1 Zb Zc Za Wj t524).bind fun t528=>((ebbtideref07_Pushed.f k1 Wj t524 t528).bind fun t529=>(ebbtideref09_Best.l0 k1 a1 a2 t529 Zb Zc Za))) else(some Wj))=some r:=H;have A11:=Ya A110;clear A110;by_cases c12:t527=true
   rotate_left
   ·replace c12:=Bool.eq_false_iff.mpr c12
    subst c12;have H1:(some Wj)=some r:=by rw[Yy (show ¬ (false=true) by decide)] at H;exact H
    clear H;have H:=H1;clear H1;obtain rfl:=Option.some.inj H;try go_wp2
    have n0_:=Ya (Yp HO_7.out);have n1_:=Ya (Ym Xp.out);have n2_:=Ya (Yg HB.out);clear HO_7;clear Xp;clear HB;have HO_7:=n0_;have Xp:=n1_;have HB:=n2_;clear n0_ n1_ n2_;obtain⟨Ao25,co25,eo25⟩:=Kd.R_slice HO_7.out
    (first|subst eo25|(injection eo25 with f1_ f2_ f3_;have f4_:=f1_.symm;have f5_:=f3_.symm;clear f1_ f2_ f3_;subst f4_;subst f5_))
    refine start_ (n:=12) (S:=fun w'=>w'.cell? ⟨gb517,0,none⟩=some (.int .i64 Zb)∧w'.cell? ⟨gb517,1,none⟩=some (.bool Zc)∧w'.cell? ⟨gb517,2,none⟩=some (.slice Ze Za.length Zd)) (ds:=[]) #[false,false,false,false,false,false,false,false,false,false,false,false] (by kernel_rfl) rfl rfl ⟨(Yc Xp.out 0).trans rfl,(Yc Xp.out 1).trans rfl,(Yc Xp.out 2).trans rfl⟩ (fun hHeld=> ?_);refine with_tabW ebbtideref09_Best.tab2 ebbtideref09_Best.bits2 (fun HT_ HW_=> ?_);generalize wr.drew=w24 at HO_7 Xp HB hHeld ⊢;refine pure_ (i:=1) (N:=some 16) (v:= ?_) (a':= ?_) #[false,true,false,false,false,false,false,false,false,false,false,false] rfl rfl (any_of HT_.out (by kernel_rfl)) (fun _ _ _ h=>h) (Or.inl ⟨by rfl,?_⟩) ?_ ?_
    rotate_left
    ·intro w'
     go_simp
     with_reducible rfl
    rotate_left
    ·simp only[Act.put,List.setIfInBounds_toArray,List.set_cons_zero,List.set_cons_succ,i64_w,i32_w]
     rfl
    refine pure_ (i:=2) (N:=some 17) (v:= ?_) (a':= ?_) #[false,true,true,false,false,false,false,false,false,false,false,false] rfl rfl (any_of HT_.out (by kernel_rfl)) (fun _ _ _ h=>h) (Or.inl ⟨by rfl,?_⟩) ?_ ?_
    rotate_left
    ·intro w'
     go_simp
     with_reducible rfl
    rotate_left
    ·simp only[Act.put,List.setIfInBounds_toArray,List.set_cons_zero,List.set_cons_succ,i64_w,i32_w]
     rfl
    refine pure_ (i:=4) (N:=some 19) (v:= ?_) (a':= ?_) #[false,true,true,false,true,false,false,false,false,false,false,false] rfl rfl (any_of HT_.out (by kernel_rfl)) (fun _ _ _ h=>h) (Or.inl ⟨by rfl,?_⟩) ?_ ?_
    rotate_left
    ·intro w'
     go_simp
     with_reducible rfl
    rotate_left
    ·simp only[Act.put,List.setIfInBounds_toArray,List.set_cons_zero,List.set_cons_succ,i64_w,i32_w]
     rfl
    refine take_ (i:=0) (N:=some 15) (v:= ?_) (a':= ?_) #[true,true,true,false,true,false,false,false,false,false,false,false] rfl rfl (take_ofW HT_.out HW_.out (by kernel_rfl)) (fun _ _ _ h=>h) (Or.inl ⟨by rfl,?_⟩) hHeld ?_ ?_
    rotate_left
    ·rintro w' ⟨s0,s1,s2⟩
     go_simp
     with_reducible rfl
    rotate_left
    ·simp only[Act.put,List.setIfInBounds_toArray,List.set_cons_zero,List.set_cons_succ,i64_w,i32_w]
     rfl
    refine take_ (i:=3) (N:=some 18) (v:= ?_) (a':= ?_) #[true,true,true,true,true,false,false,false,false,false,false,false] rfl rfl (take_ofW HT_.out HW_.out (by kernel_rfl)) (fun _ _ _ h=>h) (Or.inl ⟨by rfl,?_⟩) hHeld ?_ ?_
    rotate_left
    ·rintro w' ⟨s0,s1,s2⟩
     go_simp
     with_reducible rfl
    rotate_left
    ·simp only[Act.put,List.setIfInBounds_toArray,List.set_cons_zero,List.set_cons_succ,i64_w,i32_w]
     rfl
    refine one_ (i:=5) (N:=some 20) #[true,true,true,true,true,true,false,false,false,false,false,false] rfl rfl (one_of HT_.out (by kernel_rfl)) (by decide) (fun K hK=> ?_);refine goes_ Try.func41 (by kernel_rfl) rfl #[.agg #[.int .i64 Zb, .bool Zc, .slice Ze Za.length Zd], .slice Ao25 Wj.length co25] (by rfl) rfl rfl (by(try simp only[List.map_toArray,List.map_cons,List.map_nil]);first|done|rfl|(simp only[List.length_drop,List.length_take];rfl)) ?_
    with_reducible refine(ebbtideref07_Steps.calls k1 Zb Zc _ _ Za _ _ Wj t521 _ ?side1 ?side2 ?side3 ?side4 A10.out).mono ?_
    (case side1=>repeat(first|exact(Yt Zo.out HB.out)|(with_reducible refine Kd.C_alloc ?_ _)|(with_reducible refine Kd.C_drewN ?_ _)|(with_reducible refine Kd.C_drew ?_)))
    (case side2=>exact Zz.out)
    (case side3=>repeat(first|exact(Kd.R_reads' HO_7.out).2.2|(with_reducible refine Kd.C_alloc ?_ _)|(with_reducible refine Kd.C_drewN ?_ _)|(with_reducible refine Kd.C_drew ?_)))
    (case side4=>exact(Kd.R_reads' HO_7.out).2.1)
    rintro e w26 ⟨v522,rfl,ho0,hb⟩;refine⟨_,rfl,?_⟩;have n0_:=Ya (Ys (by(with_reducible repeat(first|apply Yr|apply Yq|apply Yp));exact HO_7.out) hb);have n1_:=Ya (Kd.R_lower ho0 (Yi (by repeat(first|(with_reducible first|exact HB.out|apply Ye|apply Yd|apply Yg|refine Yh ?_ GE517.out)|exact HB.out))));have n2_:=Ya (Yn (g:=gb517) (o:= .cells #[.int .i64 Zb, .bool Zc, .slice Ze Za.length Zd] 32 (0,0)) (by(with_reducible repeat(first|refine Yl ?_ _|refine Ym ?_|refine Yj ?_ _));exact Xp.out) hb);have n3_:=Ya (Yk (by repeat(first|(with_reducible first|exact HB.out|apply Ye|apply Yd|apply Yg|refine Yh ?_ GE517.out)|exact HB.out)) hb);clear HO_7;clear Xp;clear HB;have HO_7:=n0_;have HO523:=n1_;have Xp:=n2_;have HB:=n3_;clear n0_ n1_ n2_ n3_
    (try clear hb)
    (try clear hb2)
    (try clear hk)
    (try clear hi)
    (try clear ho0)
    obtain⟨Ao27,co27,eo27⟩:=Kd.R_slice HO523.out
    (first|subst eo27|(injection eo27 with f1_ f2_ f3_;have f4_:=f1_.symm;have f5_:=f3_.symm;clear f1_ f2_ f3_;subst f4_;subst f5_))
    refine hK.out _ _ ⟨(Yc Xp.out 0).trans rfl,(Yc Xp.out 1).trans rfl,(Yc Xp.out 2).trans rfl⟩ (fun hHeld=> ?_);clear hK K;refine norm_ (a':= ?_) ?_ ?_
    rotate_left
    ·show Act.put _ (some 20) _=_
     simp only[Act.put,List.setIfInBounds_toArray,List.set_cons_zero,List.set_cons_succ,i64_w,i32_w];rfl
    refine one_ (i:=6) (N:=some 21) #[true,true,true,true,true,true,true,false,false,false,false,false] rfl rfl (one_of HT_.out (by kernel_rfl)) (by decide) (fun K hK=> ?_);refine goes_ Try.func40 (by kernel_rfl) rfl #[.agg #[.int .i64 Zb, .bool Zc, .slice Ze Za.length Zd], .int .i64 a1, .int .i64 a2, .slice Ao27 t521.length co27] (by rfl) rfl rfl (by(try simp only[List.map_toArray,List.map_cons,List.map_nil]);first|done|rfl|(simp only[List.length_drop,List.length_take];rfl)) ?_
    with_reducible refine(ebbtideref08_Way.calls Zb Zc _ _ Za a1 a2 _ _ t521 t524 false _ ?side1 ?side2 ?side3 ?side4 A11.out).mono ?_
    (case side1=>repeat(first|exact(Yt Zo.out HB.out)|(with_reducible refine Kd.C_alloc ?_ _)|(with_reducible refine Kd.C_drewN ?_ _)|(with_reducible refine Kd.C_drew ?_)))
    (case side2=>exact Zz.out)
    (case side3=>repeat(first|exact(Kd.R_reads' HO523.out).2.2|(with_reducible refine Kd.C_alloc ?_ _)|(with_reducible refine Kd.C_drewN ?_ _)|(with_reducible refine Kd.C_drew ?_)))
    (case side4=>exact(Kd.R_reads' HO523.out).2.1)
    rintro e w28 ⟨v525,rfl,ho0,hb⟩;refine⟨_,rfl,?_⟩;have n0_:=Ya (Ys (by(with_reducible repeat(first|apply Yr|apply Yq|apply Yp));exact HO_7.out) hb);have n1_:=Ya (Kd.R_elder' (by(with_reducible repeat(first|apply Yr|apply Yq|apply Yp));exact HO523.out) (Kd.R_base ho0) hb);have n2_:=Ya (Kd.R_lower (Kd.R_new' ho0 (Kd.R_lt (by(with_reducible repeat(first|apply Yr|apply Yq|apply Yp));exact HO523.out))) (Yi (by repeat(first|(with_reducible first|exact HB.out|apply Ye|apply Yd|apply Yg|refine Yh ?_ GE517.out)|exact HB.out))));have n3_:=Ya (Yn (g:=gb517) (o:= .cells #[.int .i64 Zb, .bool Zc, .slice Ze Za.length Zd] 32 (0,0)) (by(with_reducible repeat(first|refine Yl ?_ _|refine Ym ?_|refine Yj ?_ _));exact Xp.out) hb);have n4_:=Ya (Yk (by repeat(first|(with_reducible first|exact HB.out|apply Ye|apply Yd|apply Yg|refine Yh ?_ GE517.out)|exact HB.out)) hb);clear HO_7;clear HO523;clear Xp;clear HB;have HO_7:=n0_;have HO523:=n1_;have HO526:=n2_;have Xp:=n3_;have HB:=n4_;clear n0_ n1_ n2_ n3_ n4_
    (try clear hb)
    (try clear hb2)
    (try clear hk)
    (try clear hi)
    (try clear ho0)
    refine hK.out _ _ ⟨(Yc Xp.out 0).trans rfl,(Yc Xp.out 1).trans rfl,(Yc Xp.out 2).trans rfl⟩ (fun hHeld=> ?_);clear hK K;refine norm_ (a':= ?_) ?_ ?_
    rotate_left
    ·show Act.put _ (some 21) _=_
     simp only[Act.put,List.setIfInBounds_toArray,List.set_cons_zero,List.set_cons_succ,i64_w,i32_w];rfl
    refine pure_ (i:=7) (N:=some 14) (v:= ?_) (a':= ?_) #[true,true,true,true,true,true,true,true,false,false,false,false] rfl rfl (any_of HT_.out (by kernel_rfl)) (fun _ _ _ h=>h) (Or.inl ⟨by rfl,?_⟩) ?_ ?_
    rotate_left
    ·intro w'
     go_simp
     with_reducible rfl
    rotate_left
    ·simp only[Act.put,List.setIfInBounds_toArray,List.set_cons_zero,List.set_cons_succ,i64_w,i32_w]
     rfl
    refine pure_ (i:=8) (N:=some 22) (v:= ?_) (a':= ?_) #[true,true,true,true,true,true,true,true,true,false,false,false] rfl rfl (any_of HT_.out (by kernel_rfl)) (fun _ _ _ h=>h) (Or.inl ⟨by rfl,?_⟩) ?_ ?_
    rotate_left
    ·intro w'
     go_simp
     with_reducible rfl
    rotate_left
    ·simp only[Act.put,List.setIfInBounds_toArray,List.set_cons_zero,List.set_cons_succ,i64_w,i32_w]
     rfl
    refine pure_ (i:=9) (N:=some 23) (v:= ?_) (a':= ?_) #[true,true,true,true,true,true,true,true,true,true,false,false] rfl rfl (any_of HT_.out (by kernel_rfl)) (fun _ _ _ h=>h) (Or.inl ⟨by rfl,?_⟩) ?_ ?_
    rotate_left
    ·intro w'
     go_simp
     with_reducible rfl
    rotate_left
    ·simp only[Act.put,List.setIfInBounds_toArray,List.set_cons_zero,List.set_cons_succ,i64_w,i32_w]
     rfl
    refine pure_ (i:=10) (N:=some 8) (v:= ?_) (a':= ?_) #[true,true,true,true,true,true,true,true,true,true,true,false] rfl rfl (any_of HT_.out (by kernel_rfl)) (fun _ _ _ h=>h) (Or.inl ⟨by rfl,?_⟩) ?_ ?_
    rotate_left
    ·intro w'
     go_simp
     with_reducible rfl
    rotate_left
    ·simp only[Act.put,List.setIfInBounds_toArray,List.set_cons_zero,List.set_cons_succ,i64_w,i32_w]
     rfl
    refine pure_ (i:=11) (N:=some 9) (v:= ?_) (a':= ?_) #[true,true,true,true,true,true,true,true,true,true,true,true] rfl rfl (any_of HT_.out (by kernel_rfl)) (fun _ _ _ h=>h) (Or.inl ⟨by rfl,?_⟩) ?_ ?_
    rotate_left
    ·intro w'
     go_simp
     with_reducible rfl
    rotate_left
    ·simp only[Act.put,List.setIfInBounds_toArray,List.set_cons_zero,List.set_cons_succ,i64_w,i32_w]
     rfl
    refine done_ (done_of HT_.out (by kernel_rfl)) ?_;try go_wp2
    go_ret;exact⟨_,by first|rfl|(simp[errW_none,errW_some]<;>rfl)|(simp[*,errW_none,errW_some]<;>rfl),by(with_reducible repeat(first|apply Yr|apply Yq|apply Yp));exact HO_7.out,by repeat(first|(with_reducible first|exact HB.out|apply Ye|apply Yd|apply Yg|refine Yh ?_ GE517.out)|exact HB.out)⟩
   subst c12;have H1:((ebbtideref08_Bottle.f k1 Zb Zc Za Wj t524).bind fun t528=>((ebbtideref07_Pushed.f k1 Wj t524 t528).bind fun t529=>(ebbtideref09_Best.l0 k1 a1 a2 t529 Zb Zc Za)))=some r:=by first|(rw[Yx rfl] at H;exact H)|(rw[Yx trivial] at H;exact H)
   clear H;have H:=H1;clear H1;replace H:=Option.bind_eq_some_iff.mp H;obtain⟨t528,A130,H⟩:=H;replace H:((ebbtideref07_Pushed.f k1 Wj t524 t528).bind fun t529=>(ebbtideref09_Best.l0 k1 a1 a2 t529 Zb Zc Za))=some r:=H;have A13:=Ya A130;clear A130;replace H:=Option.bind_eq_some_iff.mp H;obtain⟨t529,A140,H⟩:=H;replace H:(ebbtideref09_Best.l0 k1 a1 a2 t529 Zb Zc Za)=some r:=H;have A14:=Ya A140;clear A140;have H':=Ya H;clear H;try go_wp2
   have n0_:=Ya (Yp HO_7.out);have n1_:=Ya (Ym Xp.out);have n2_:=Ya (Yg HB.out);clear HO_7;clear Xp;clear HB;have HO_7:=n0_;have Xp:=n1_;have HB:=n2_;clear n0_ n1_ n2_;obtain⟨Ao16,co16,eo16⟩:=Kd.R_slice HO_7.out
   (first|subst eo16|(injection eo16 with f1_ f2_ f3_;have f4_:=f1_.symm;have f5_:=f3_.symm;clear f1_ f2_ f3_;subst f4_;subst f5_))
   refine start_ (n:=12) (S:=fun w'=>w'.cell? ⟨gb517,0,none⟩=some (.int .i64 Zb)∧w'.cell? ⟨gb517,1,none⟩=some (.bool Zc)∧w'.cell? ⟨gb517,2,none⟩=some (.slice Ze Za.length Zd)) (ds:=[]) #[false,false,false,false,false,false,false,false,false,false,false,false] (by kernel_rfl) rfl rfl ⟨(Yc Xp.out 0).trans rfl,(Yc Xp.out 1).trans rfl,(Yc Xp.out 2).trans rfl⟩ (fun hHeld=> ?_);refine with_tabW ebbtideref09_Best.tab2 ebbtideref09_Best.bits2 (fun HT_ HW_=> ?_);generalize wr.drew=w15 at HO_7 Xp HB hHeld ⊢;refine pure_ (i:=1) (N:=some 16) (v:= ?_) (a':= ?_) #[false,true,false,false,false,false,false,false,false,false,false,false] rfl rfl (any_of HT_.out (by kernel_rfl)) (fun _ _ _ h=>h) (Or.inl ⟨by rfl,?_⟩) ?_ ?_
   rotate_left
   ·intro w'
    go_simp
    with_reducible rfl
   rotate_left
   ·simp only[Act.put,List.setIfInBounds_toArray,List.set_cons_zero,List.set_cons_succ,i64_w,i32_w]
    rfl
   refine pure_ (i:=2) (N:=some 17) (v:= ?_) (a':= ?_) #[false,true,true,false,false,false,false,false,false,false,false,false] rfl rfl (any_of HT_.out (by kernel_rfl)) (fun _ _ _ h=>h) (Or.inl ⟨by rfl,?_⟩) ?_ ?_
   rotate_left
   ·intro w'
    go_simp
    with_reducible rfl
   rotate_left
   ·simp only[Act.put,List.setIfInBounds_toArray,List.set_cons_zero,List.set_cons_succ,i64_w,i32_w]
    rfl
   refine pure_ (i:=4) (N:=some 19) (v:= ?_) (a':= ?_) #[false,true,true,false,true,false,false,false,false,false,false,false] rfl rfl (any_of HT_.out (by kernel_rfl)) (fun _ _ _ h=>h) (Or.inl ⟨by rfl,?_⟩) ?_ ?_
   rotate_left
   ·intro w'
    go_simp
    with_reducible rfl
   rotate_left
   ·simp only[Act.put,List.setIfInBounds_toArray,List.set_cons_zero,List.set_cons_succ,i64_w,i32_w]
    rfl
   refine take_ (i:=0) (N:=some 15) (v:= ?_) (a':= ?_) #[true,true,true,false,true,false,false,false,false,false,false,false] rfl rfl (take_ofW HT_.out HW_.out (by kernel_rfl)) (fun _ _ _ h=>h) (Or.inl ⟨by rfl,?_⟩) hHeld ?_ ?_
   rotate_left
   ·rintro w' ⟨s0,s1,s2⟩
    go_simp
    with_reducible rfl
   rotate_left
   ·simp only[Act.put,List.setIfInBounds_toArray,List.set_cons_zero,List.set_cons_succ,i64_w,i32_w]
    rfl
   refine take_ (i:=3) (N:=some 18) (v:= ?_) (a':= ?_) #[true,true,true,true,true,false,false,false,false,false,false,false] rfl rfl (take_ofW HT_.out HW_.out (by kernel_rfl)) (fun _ _ _ h=>h) (Or.inl ⟨by rfl,?_⟩) hHeld ?_ ?_
   rotate_left
   ·rintro w' ⟨s0,s1,s2⟩
    go_simp
    with_reducible rfl
   rotate_left
   ·simp only[Act.put,List.setIfInBounds_toArray,List.set_cons_zero,List.set_cons_succ,i64_w,i32_w]
    rfl
   refine one_ (i:=5) (N:=some 20) #[true,true,true,true,true,true,false,false,false,false,false,false] rfl rfl (one_of HT_.out (by kernel_rfl)) (by decide) (fun K hK=> ?_);refine goes_ Try.func41 (by kernel_rfl) rfl #[.agg #[.int .i64 Zb, .bool Zc, .slice Ze Za.length Zd], .slice Ao16 Wj.length co16] (by rfl) rfl rfl (by(try simp only[List.map_toArray,List.map_cons,List.map_nil]);first|done|rfl|(simp only[List.length_drop,List.length_take];rfl)) ?_
   with_reducible refine(ebbtideref07_Steps.calls k1 Zb Zc _ _ Za _ _ Wj t521 _ ?side1 ?side2 ?side3 ?side4 A10.out).mono ?_
   (case side1=>repeat(first|exact(Yt Zo.out HB.out)|(with_reducible refine Kd.C_alloc ?_ _)|(with_reducible refine Kd.C_drewN ?_ _)|(with_reducible refine Kd.C_drew ?_)))
   (case side2=>exact Zz.out)
   (case side3=>repeat(first|exact(Kd.R_reads' HO_7.out).2.2|(with_reducible refine Kd.C_alloc ?_ _)|(with_reducible refine Kd.C_drewN ?_ _)|(with_reducible refine Kd.C_drew ?_)))
   (case side4=>exact(Kd.R_reads' HO_7.out).2.1)
   rintro e w17 ⟨v522,rfl,ho0,hb⟩;refine⟨_,rfl,?_⟩;have n0_:=Ya (Ys (by(with_reducible repeat(first|apply Yr|apply Yq|apply Yp));exact HO_7.out) hb);have n1_:=Ya (Kd.R_lower ho0 (Yi (by repeat(first|(with_reducible first|exact HB.out|apply Ye|apply Yd|apply Yg|refine Yh ?_ GE517.out)|exact HB.out))));have n2_:=Ya (Yn (g:=gb517) (o:= .cells #[.int .i64 Zb, .bool Zc, .slice Ze Za.length Zd] 32 (0,0)) (by(with_reducible repeat(first|refine Yl ?_ _|refine Ym ?_|refine Yj ?_ _));exact Xp.out) hb);have n3_:=Ya (Yk (by repeat(first|(with_reducible first|exact HB.out|apply Ye|apply Yd|apply Yg|refine Yh ?_ GE517.out)|exact HB.out)) hb);clear HO_7;clear Xp;clear HB;have HO_7:=n0_;have HO523:=n1_;have Xp:=n2_;have HB:=n3_;clear n0_ n1_ n2_ n3_
   (try clear hb)
   (try clear hb2)
   (try clear hk)
   (try clear hi)
   (try clear ho0)
   obtain⟨Ao18,co18,eo18⟩:=Kd.R_slice HO523.out
   (first|subst eo18|(injection eo18 with f1_ f2_ f3_;have f4_:=f1_.symm;have f5_:=f3_.symm;clear f1_ f2_ f3_;subst f4_;subst f5_))
   refine hK.out _ _ ⟨(Yc Xp.out 0).trans rfl,(Yc Xp.out 1).trans rfl,(Yc Xp.out 2).trans rfl⟩ (fun hHeld=> ?_);clear hK K;refine norm_ (a':= ?_) ?_ ?_
   rotate_left
   ·show Act.put _ (some 20) _=_
    simp only[Act.put,List.setIfInBounds_toArray,List.set_cons_zero,List.set_cons_succ,i64_w,i32_w];rfl
   refine one_ (i:=6) (N:=some 21) #[true,true,true,true,true,true,true,false,false,false,false,false] rfl rfl (one_of HT_.out (by kernel_rfl)) (by decide) (fun K hK=> ?_);refine goes_ Try.func40 (by kernel_rfl) rfl #[.agg #[.int .i64 Zb, .bool Zc, .slice Ze Za.length Zd], .int .i64 a1, .int .i64 a2, .slice Ao18 t521.length co18] (by rfl) rfl rfl (by(try simp only[List.map_toArray,List.map_cons,List.map_nil]);first|done|rfl|(simp only[List.length_drop,List.length_take];rfl)) ?_
   with_reducible refine(ebbtideref08_Way.calls Zb Zc _ _ Za a1 a2 _ _ t521 t524 true _ ?side1 ?side2 ?side3 ?side4 A11.out).mono ?_
   (case side1=>repeat(first|exact(Yt Zo.out HB.out)|(with_reducible refine Kd.C_alloc ?_ _)|(with_reducible refine Kd.C_drewN ?_ _)|(with_reducible refine Kd.C_drew ?_)))
   (case side2=>exact Zz.out)
   (case side3=>repeat(first|exact(Kd.R_reads' HO523.out).2.2|(with_reducible refine Kd.C_alloc ?_ _)|(with_reducible refine Kd.C_drewN ?_ _)|(with_reducible refine Kd.C_drew ?_)))
   (case side4=>exact(Kd.R_reads' HO523.out).2.1)
   rintro e w19 ⟨v525,rfl,ho0,hb⟩;refine⟨_,rfl,?_⟩;have n0_:=Ya (Ys (by(with_reducible repeat(first|apply Yr|apply Yq|apply Yp));exact HO_7.out) hb);have n1_:=Ya (Kd.R_elder' (by(with_reducible repeat(first|apply Yr|apply Yq|apply Yp));exact HO523.out) (Kd.R_base ho0) hb);have n2_:=Ya (Kd.R_lower (Kd.R_new' ho0 (Kd.R_lt (by(with_reducible repeat(first|apply Yr|apply Yq|apply Yp));exact HO523.out))) (Yi (by repeat(first|(with_reducible first|exact HB.out|apply Ye|apply Yd|apply Yg|refine Yh ?_ GE517.out)|exact HB.out))));have n3_:=Ya (Yn (g:=gb517) (o:= .cells #[.int .i64 Zb, .bool Zc, .slice Ze Za.length Zd] 32 (0,0)) (by(with_reducible repeat(first|refine Yl ?_ _|refine Ym ?_|refine Yj ?_ _));exact Xp.out) hb);have n4_:=Ya (Yk (by repeat(first|(with_reducible first|exact HB.out|apply Ye|apply Yd|apply Yg|refine Yh ?_ GE517.out)|exact HB.out)) hb);clear HO_7;clear HO523;clear Xp;clear HB;have HO_7:=n0_;have HO523:=n1_;have HO526:=n2_;have Xp:=n3_;have HB:=n4_;clear n0_ n1_ n2_ n3_ n4_
   (try clear hb)
   (try clear hb2)
   (try clear hk)
   (try clear hi)
   (try clear ho0)
   refine hK.out _ _ ⟨(Yc Xp.out 0).trans rfl,(Yc Xp.out 1).trans rfl,(Yc Xp.out 2).trans rfl⟩ (fun hHeld=> ?_);clear hK K;refine norm_ (a':= ?_) ?_ ?_
   rotate_left
   ·show Act.put _ (some 21) _=_
    simp only[Act.put,List.setIfInBounds_toArray,List.set_cons_zero,List.set_cons_succ,i64_w,i32_w];rfl
   refine pure_ (i:=7) (N:=some 14) (v:= ?_) (a':= ?_) #[true,true,true,true,true,true,true,true,false,false,false,false] rfl rfl (any_of HT_.out (by kernel_rfl)) (fun _ _ _ h=>h) (Or.inl ⟨by rfl,?_⟩) ?_ ?_
   rotate_left
   ·intro w'
    go_simp
    with_reducible rfl
   rotate_left
   ·simp only[Act.put,List.setIfInBounds_toArray,List.set_cons_zero,List.set_cons_succ,i64_w,i32_w]
    rfl
   refine pure_ (i:=8) (N:=some 22) (v:= ?_) (a':= ?_) #[true,true,true,true,true,true,true,true,true,false,false,false] rfl rfl (any_of HT_.out (by kernel_rfl)) (fun _ _ _ h=>h) (Or.inl ⟨by rfl,?_⟩) ?_ ?_
   rotate_left
   ·intro w'
    go_simp
    with_reducible rfl
   rotate_left
   ·simp only[Act.put,List.setIfInBounds_toArray,List.set_cons_zero,List.set_cons_succ,i64_w,i32_w]
    rfl
   refine pure_ (i:=9) (N:=some 23) (v:= ?_) (a':= ?_) #[true,true,true,true,true,true,true,true,true,true,false,false] rfl rfl (any_of HT_.out (by kernel_rfl)) (fun _ _ _ h=>h) (Or.inl ⟨by rfl,?_⟩) ?_ ?_
   rotate_left
   ·intro w'
    go_simp
    with_reducible rfl
   rotate_left
   ·simp only[Act.put,List.setIfInBounds_toArray,List.set_cons_zero,List.set_cons_succ,i64_w,i32_w]
    rfl
   refine pure_ (i:=10) (N:=some 8) (v:= ?_) (a':= ?_) #[true,true,true,true,true,true,true,true,true,true,true,false] rfl rfl (any_of HT_.out (by kernel_rfl)) (fun _ _ _ h=>h) (Or.inl ⟨by rfl,?_⟩) ?_ ?_
   rotate_left
   ·intro w'
    go_simp
    with_reducible rfl
   rotate_left
   ·simp only[Act.put,List.setIfInBounds_toArray,List.set_cons_zero,List.set_cons_succ,i64_w,i32_w]
    rfl
   refine pure_ (i:=11) (N:=some 9) (v:= ?_) (a':= ?_) #[true,true,true,true,true,true,true,true,true,true,true,true] rfl rfl (any_of HT_.out (by kernel_rfl)) (fun _ _ _ h=>h) (Or.inl ⟨by rfl,?_⟩) ?_ ?_
   rotate_left
   ·intro w'
    go_simp
    with_reducible rfl
   rotate_left
   ·simp only[Act.put,List.setIfInBounds_toArray,List.set_cons_zero,List.set_cons_succ,i64_w,i32_w]
    rfl
   refine done_ (done_of HT_.out (by kernel_rfl)) ?_;have hcz20_0:w19.cell? ⟨gb517,0,none⟩=some (.int .i64 Zb):=(Yc Xp.out 0).trans rfl;have hcz20_1:w19.cell? ⟨gb517,1,none⟩=some (.bool Zc):=(Yc Xp.out 1).trans rfl;have hcz20_2:w19.cell? ⟨gb517,2,none⟩=some (.slice Ze Za.length Zd):=(Yc Xp.out 2).trans rfl;have hfz20_0:=Yf Xp.out 0;have hfz20_1:=Yf Xp.out 1;have hfz20_2:=Yf Xp.out 2;obtain⟨Ao21,co21,eo21⟩:=Kd.R_slice HO526.out;subst eo21;try go_wp2_with (first|((with_reducible refine gate_callee (f:=43) rfl ?_);refine goesL_ (some 32) rfl rfl Try.func43 (by kernel_rfl) rfl #[.agg #[.int .i64 Zb, .bool Zc, .slice Ze Za.length Zd], .slice Ao16 Wj.length co16, .slice Ao21 t524.length co21] rfl (by(try simp only[List.map_toArray,List.map_cons,List.map_nil]);first|done|rfl|(simp only[List.length_drop,List.length_take];rfl)) ?_;(with_reducible refine(ebbtideref08_Bottle.calls k1 Zb Zc _ _ Za _ _ Wj _ _ t524 t528 _ ?side1 ?side2 ?side3 ?side4 ?side5 ?side6 A13.out).mono ?_);(case side1=>repeat(first|exact(Yt Zo.out HB.out)|(with_reducible refine Kd.C_alloc ?_ _)|(with_reducible refine Kd.C_drewN ?_ _)|(with_reducible refine Kd.C_drew ?_)));(case side2=>exact Zz.out);(case side3=>repeat(first|exact(Kd.R_reads' HO_7.out).2.2|(with_reducible refine Kd.C_alloc ?_ _)|(with_reducible refine Kd.C_drewN ?_ _)|(with_reducible refine Kd.C_drew ?_)));(case side4=>exact(Kd.R_reads' HO_7.out).2.1);(case side5=>repeat(first|exact(Kd.R_reads' HO526.out).2.2|(with_reducible refine Kd.C_alloc ?_ _)|(with_reducible refine Kd.C_drewN ?_ _)|(with_reducible refine Kd.C_drew ?_)));(case side6=>exact(Kd.R_reads' HO526.out).2.1);rintro e w22 ⟨rfl,hb⟩;refine⟨_,rfl,?_⟩;have n0_:=Ya (Ys (by(with_reducible repeat(first|apply Yr|apply Yq|apply Yp));exact HO_7.out) hb);have n1_:=Ya (Ys (by(with_reducible repeat(first|apply Yr|apply Yq|apply Yp));exact HO523.out) hb);have n2_:=Ya (Ys (by(with_reducible repeat(first|apply Yr|apply Yq|apply Yp));exact HO526.out) hb);have n3_:=Ya (Yn (g:=gb517) (o:= .cells #[.int .i64 Zb, .bool Zc, .slice Ze Za.length Zd] 32 (0,0)) (by(with_reducible repeat(first|refine Yl ?_ _|refine Ym ?_|refine Yj ?_ _));exact Xp.out) hb);have n4_:=Ya (Yk (by repeat(first|(with_reducible first|exact HB.out|apply Ye|apply Yd|apply Yg|refine Yh ?_ GE517.out)|exact HB.out)) hb);clear HO_7;clear HO523;clear HO526;clear Xp;clear HB;have HO_7:=n0_;have HO523:=n1_;have HO526:=n2_;have Xp:=n3_;have HB:=n4_;clear n0_ n1_ n2_ n3_ n4_;(try clear hb);(try clear hb2);(try clear hk);(try clear hi))|((with_reducible refine gate_callee (f:=42) rfl ?_);refine goesL_ (some 33) rfl rfl Try.func42 (by kernel_rfl) rfl #[.slice Ao16 Wj.length co16, .slice Ao21 t524.length co21, .int .i64 t528] rfl (by(try simp only[List.map_toArray,List.map_cons,List.map_nil]);first|done|rfl|(simp only[List.length_drop,List.length_take];rfl)) ?_;(with_reducible refine(ebbtideref07_Pushed.calls k1 _ _ Wj _ _ t524 t528 t529 _ ?side1 ?side2 ?side3 ?side4 A14.out).mono ?_);(case side1=>repeat(first|exact(Kd.R_reads' HO_7.out).2.2|(with_reducible refine Kd.C_alloc ?_ _)|(with_reducible refine Kd.C_drewN ?_ _)|(with_reducible refine Kd.C_drew ?_)));(case side2=>exact(Kd.R_reads' HO_7.out).2.1);(case side3=>repeat(first|exact(Kd.R_reads' HO526.out).2.2|(with_reducible refine Kd.C_alloc ?_ _)|(with_reducible refine Kd.C_drewN ?_ _)|(with_reducible refine Kd.C_drew ?_)));(case side4=>exact(Kd.R_reads' HO526.out).2.1);rintro e w23 ⟨v530,rfl,ho0,hb⟩;refine⟨_,rfl,?_⟩;have n0_:=Ya (Kd.R_elder' (by(with_reducible repeat(first|apply Yr|apply Yq|apply Yp));exact HO_7.out) (Kd.R_base ho0) hb);have n1_:=Ya (Ys (by(with_reducible repeat(first|apply Yr|apply Yq|apply Yp));exact HO523.out) hb);have n2_:=Ya (Ys (by(with_reducible repeat(first|apply Yr|apply Yq|apply Yp));exact HO526.out) hb);have n3_:=Ya (Kd.R_lower (Kd.R_new' ho0 (Kd.R_lt (by(with_reducible repeat(first|apply Yr|apply Yq|apply Yp));exact HO_7.out))) (Yi (by repeat(first|(with_reducible first|exact HB.out|apply Ye|apply Yd|apply Yg|refine Yh ?_ GE517.out)|exact HB.out))));have n4_:=Ya (Yn (g:=gb517) (o:= .cells #[.int .i64 Zb, .bool Zc, .slice Ze Za.length Zd] 32 (0,0)) (by(with_reducible repeat(first|refine Yl ?_ _|refine Ym ?_|refine Yj ?_ _));exact Xp.out) hb);have n5_:=Ya (Yk (by repeat(first|(with_reducible first|exact HB.out|apply Ye|apply Yd|apply Yg|refine Yh ?_ GE517.out)|exact HB.out)) hb);clear HO_7;clear HO523;clear HO526;clear Xp;clear HB;have HO_7:=n0_;have HO523:=n1_;have HO526:=n2_;have HO531:=n3_;have Xp:=n4_;have HB:=n5_;clear n0_ n1_ n2_ n3_ n4_ n5_;(try clear hb);(try clear hb2);(try clear hk);(try clear hi);(try clear ho0)))
   go_roundg k1
   case measure=>have:=HK1.out;omega
   case rel=>exact⟨(t529),H',⟨by have:=HK1.out;omega⟩,⟨by(with_reducible repeat(first|apply Yr|apply Yq|apply Yp));exact Kd.R_mono HO531.out (fun _ hk=>trivial)⟩,⟨by(with_reducible repeat(first|refine Yl ?_ _|refine Ym ?_|refine Yj ?_ _));exact Xp.out⟩,⟨by repeat(first|(with_reducible first|exact HB.out|apply Ye|apply Yd|apply Yg|refine Yh ?_ GE517.out)|exact HB.out)⟩⟩
end P
namespace P
attribute [local go_sem] max2_int min2_int max_two min_two max_three min_three max_four min_four
def ebbtideref16_Most.f (k:Nat) (Zb:Int) (Zc:Bool) (Za:List (S73)) (a1:Int) (a2:Int) (a3:Int):Option (Int × Int):=(ebbtideref15_Build.f k Zb Zc Za a1 a2 a3).bind fun bt540=>(if bt540.2.2.2=0 then((ebbtideref09_Best.f k bt540.1 bt540.2.1 bt540.2.2.1 (wrap64 (bt540.1 - 2)) (wrap64 (bt540.1 - 1))).bind fun t547=>((ebbtideref07_Leaves.f k bt540.1 bt540.2.1 bt540.2.2.1 t547 (wrap64 (bt540.1 - 2))).bind fun t550=>(some (t550,0)))) else(some (0,bt540.2.2.2)))
set_option maxHeartbeats 8000000 in
set_option maxRecDepth 100000 in
theorem ebbtideref16_Most.calls (k:Nat) (Zb:Int) (Zc:Bool) (Ze:Option Addr) (Zd:Nat) (Za:List (S73)) (a1:Int) (a2:Int) (a3:Int) (r1:Int) (r2:Int) (w:World) (Zx:Kd.C k73 w Ze Za.length Za) (Zy:Za.length≤Zd) (h:ebbtideref16_Most.f k Zb Zc Za a1 a2 a3=some (r1,r2)):
  Calls Try.prog 15 #[.agg #[.int .i64 Zb, .bool Zc, .slice Ze Za.length Zd], .int .i64 a1, .int .i64 a2, .int .i64 a3] w fun e w'=>e= .returned (.tuple #[.int .i64 r1, .int .i64 r2])∧Below w.heap.size w w':=by
 have hu32:=Try.underlying32;have Zo:=Ya Zx;have Zz:=Ya Zy;clear Zx Zy;have HB:=Ya (Yo w.heap.size w);have H:((ebbtideref15_Build.f k Zb Zc Za a1 a2 a3).bind fun bt540=>(if bt540.2.2.2=0 then((ebbtideref09_Best.f k bt540.1 bt540.2.1 bt540.2.2.1 (wrap64 (bt540.1 - 2)) (wrap64 (bt540.1 - 1))).bind fun t547=>((ebbtideref07_Leaves.f k bt540.1 bt540.2.1 bt540.2.2.1 t547 (wrap64 (bt540.1 - 2))).bind fun t550=>(some (t550,0)))) else(some (0,bt540.2.2.2))))=some (r1,r2):=h;clear h;replace H:=Option.bind_eq_some_iff.mp H;obtain⟨⟨t540,t541,t542,t545⟩,A50,H⟩:=H;replace H:(if t545=0 then((ebbtideref09_Best.f k t540 t541 t542 (wrap64 (t540 - 2)) (wrap64 (t540 - 1))).bind fun t547=>((ebbtideref07_Leaves.f k t540 t541 t542 t547 (wrap64 (t540 - 2))).bind fun t550=>(some (t550,0)))) else(some (0,t545)))=some (r1,r2):=H;have A5:=Ya A50;clear A50;by_cases c6:t545=0
 rotate_left
 ·rw[Yy c6] at H
  have c6b0:(t545 == 0)=false:=beq_eq_false_iff_ne.mpr c6;have c6b1:(t545 != 0)=true:=bne_iff_ne.mpr c6;simp only[Option.some.injEq,Prod.mk.injEq] at H;obtain⟨rfl,rfl⟩:=H;go_enter Try.func15,Try.ntmps15;go_wp2_with (first|((with_reducible refine gate_dst (N:=4) rfl ?_);refine Yz ?hg (N:=4) ?hd (cs:= #[.int .i64 Zb, .bool Zc, .slice Ze Za.length Zd]) (t:=32) ?hr ?_;(case hd=>rfl);(case hg=>rfl);(case hr=>first|(go_simp;done)|(go_simp;rfl));intro Jz hg w20 Zf hb;have n0_:=Ya (Yk (by repeat(first|(with_reducible first|exact HB.out|apply Ye|apply Yd|apply Yg)|exact HB.out)) hb);have n1_:=Ya (Zf);have n2_:=Ya ((by rw[hg];exact(Yi (by repeat(first|(with_reducible first|exact HB.out|apply Ye|apply Yd|apply Yg)|exact HB.out))):w.heap.size≤Jz));have n3_:=Ya ((by rw[hg];exact(Yi (by repeat(first|(with_reducible first|exact HB.out|apply Ye|apply Yd|apply Yg)|exact HB.out))):w.heap.size≤Jz));clear HB;have HB:=n0_;have Vi:=n1_;have GW539:=n2_;have GE539:=n3_;clear n0_ n1_ n2_ n3_;clear hb Zf hg;have hcz21_0:w20.cell? ⟨Jz,0,none⟩=some (.int .i64 Zb):=(Yc Vi.out 0).trans rfl;have hcz21_1:w20.cell? ⟨Jz,1,none⟩=some (.bool Zc):=(Yc Vi.out 1).trans rfl;have hcz21_2:w20.cell? ⟨Jz,2,none⟩=some (.slice Ze Za.length Zd):=(Yc Vi.out 2).trans rfl;have hfz21_0:=Yf Vi.out 0;have hfz21_1:=Yf Vi.out 1;have hfz21_2:=Yf Vi.out 2)|((with_reducible refine gate_callee (f:=29) rfl ?_);refine goesL_ (some 18) rfl rfl Try.func29 (by kernel_rfl) rfl #[.agg #[.int .i64 Zb, .bool Zc, .slice Ze Za.length Zd], .int .i64 a1, .int .i64 a2, .int .i64 a3] rfl (by(try simp only[List.map_toArray,List.map_cons,List.map_nil]);first|done|rfl|(simp only[List.length_drop,List.length_take];rfl)) ?_;(with_reducible refine(ebbtideref15_Build.calls k Zb Zc _ _ Za a1 a2 a3 t540 t541 t542 t545 _ ?side1 ?side2 A5.out).mono ?_);(case side1=>repeat(first|exact(Yt Zo.out HB.out)|(with_reducible refine Kd.C_alloc ?_ _)|(with_reducible refine Kd.C_drewN ?_ _)|(with_reducible refine Kd.C_drew ?_)));(case side2=>exact Zz.out);rintro e w22 ⟨v543,rfl,ho0,hb⟩;refine⟨_,rfl,?_⟩;have n0_:=Ya (Kd.R_lower ho0 (Yi (by repeat(first|(with_reducible first|exact HB.out|apply Ye|apply Yd|apply Yg|refine Yh ?_ GE539.out)|exact HB.out))));have n1_:=Ya (Yn (g:=Jz) (o:= .cells #[.int .i64 Zb, .bool Zc, .slice Ze Za.length Zd] 32 (0,0)) (by(with_reducible repeat(first|refine Yl ?_ _|refine Ym ?_|refine Yj ?_ _));exact Vi.out) hb);have n2_:=Ya (Yk (by repeat(first|(with_reducible first|exact HB.out|apply Ye|apply Yd|apply Yg|refine Yh ?_ GE539.out)|exact HB.out)) hb);clear Vi;clear HB;have HO544:=n0_;have Vi:=n1_;have HB:=n2_;clear n0_ n1_ n2_;(try clear hb);(try clear hb2);(try clear hk);(try clear hi);(try clear ho0))|((with_reducible refine gate_dst (N:=10) rfl ?_);refine Yz ?hg (N:=10) ?hd (cs:= #[.int .i64 0, .bool false, .slice none 0 0]) (t:=32) ?hr ?_;(case hd=>rfl);(case hg=>rfl);(case hr=>first|(go_simp;done)|(go_simp;rfl));intro Ji hg w23 Zf hb;have n0_:=Ya (Ys (by(with_reducible repeat(first|apply Yr|apply Yq|apply Yp));exact HO544.out) hb);have n1_:=Ya (Yn (g:=Jz) (o:= .cells #[.int .i64 Zb, .bool Zc, .slice Ze Za.length Zd] 32 (0,0)) (by(with_reducible repeat(first|refine Yl ?_ _|refine Ym ?_|refine Yj ?_ _));exact Vi.out) hb);have n2_:=Ya (Yk (by repeat(first|(with_reducible first|exact HB.out|apply Ye|apply Yd|apply Yg|refine Yh ?_ GE539.out)|exact HB.out)) hb);have n3_:=Ya (Zf);have n4_:=Ya ((by rw[hg];exact(Yi (by repeat(first|(with_reducible first|exact HB.out|apply Ye|apply Yd|apply Yg|refine Yh ?_ GE539.out)|exact HB.out))):w.heap.size≤Ji));have n5_:=Ya ((by rw[hg];exact(Yi (by repeat(first|(with_reducible first|exact HB.out|apply Ye|apply Yd|apply Yg|refine Yh ?_ GE539.out)|exact HB.out))):w.heap.size≤Ji));have n6_:=Ya ((by rw[hg];exact Nat.ne_of_lt (blk_lt (g:=Jz) (o:= .cells #[.int .i64 Zb, .bool Zc, .slice Ze Za.length Zd] 32 (0,0)) (by(with_reducible repeat(first|refine Yl ?_ _|refine Ym ?_|refine Yj ?_ _));exact Vi.out)):Jz≠Ji));have n7_:=Ya ((by rw[hg];exact Nat.ne_of_gt (blk_lt (g:=Jz) (o:= .cells #[.int .i64 Zb, .bool Zc, .slice Ze Za.length Zd] 32 (0,0)) (by(with_reducible repeat(first|refine Yl ?_ _|refine Ym ?_|refine Yj ?_ _));exact Vi.out)):Ji≠Jz));clear HO544;clear Vi;clear HB;have HO544:=n0_;have Vi:=n1_;have HB:=n2_;have Jd:=n3_;have GW546:=n4_;have GE546:=n5_;have NB539_546:=n6_;have NB546_539:=n7_;clear n0_ n1_ n2_ n3_ n4_ n5_ n6_ n7_;clear hb Zf hg;have hnb24:=NB546_539.out;have hnc24:=NB539_546.out;have hcz25_0:w23.cell? ⟨Ji,0,none⟩=some (.int .i64 0):=(Yc Jd.out 0).trans rfl;have hcz25_1:w23.cell? ⟨Ji,1,none⟩=some (.bool false):=(Yc Jd.out 1).trans rfl;have hcz25_2:w23.cell? ⟨Ji,2,none⟩=some (.slice none 0 0):=(Yc Jd.out 2).trans rfl;have hfz25_0:=Yf Jd.out 0;have hfz25_1:=Yf Jd.out 1;have hfz25_2:=Yf Jd.out 2;obtain⟨Ao26,co26,eo26⟩:=Kd.R_slice HO544.out;subst eo26));go_ret2;exact⟨by first|rfl|(simp[errW_none,errW_some]<;>rfl)|(simp[*,errW_none,errW_some]<;>rfl),by repeat(first|(with_reducible first|exact HB.out|apply Ye|apply Yd|apply Yg|refine Yh ?_ GE539.out|refine Yh ?_ GE546.out)|exact HB.out)⟩
 rw[Yx c6] at H;have c6b0:(t545 == 0)=true:=beq_iff_eq.mpr c6;have c6b1:(t545 != 0)=false:=bne_eq_false_iff_eq.mpr c6;clear c6;replace H:=Option.bind_eq_some_iff.mp H;obtain⟨t547,A70,H⟩:=H;replace H:((ebbtideref07_Leaves.f k t540 t541 t542 t547 (wrap64 (t540 - 2))).bind fun t550=>(some (t550,0)))=some (r1,r2):=H;have A7:=Ya A70;clear A70;replace H:=Option.bind_eq_some_iff.mp H;obtain⟨t550,A80,H⟩:=H;replace H:(some (t550,0))=some (r1,r2):=H;have A8:=Ya A80;clear A80;simp only[Option.some.injEq,Prod.mk.injEq] at H;obtain⟨rfl,rfl⟩:=H;go_enter Try.func15,Try.ntmps15;go_wp2_with (first|((with_reducible refine gate_dst (N:=4) rfl ?_);refine Yz ?hg (N:=4) ?hd (cs:= #[.int .i64 Zb, .bool Zc, .slice Ze Za.length Zd]) (t:=32) ?hr ?_;(case hd=>rfl);(case hg=>rfl);(case hr=>first|(go_simp;done)|(go_simp;rfl));intro Jz hg w9 Zf hb;have n0_:=Ya (Yk (by repeat(first|(with_reducible first|exact HB.out|apply Ye|apply Yd|apply Yg)|exact HB.out)) hb);have n1_:=Ya (Zf);have n2_:=Ya ((by rw[hg];exact(Yi (by repeat(first|(with_reducible first|exact HB.out|apply Ye|apply Yd|apply Yg)|exact HB.out))):w.heap.size≤Jz));have n3_:=Ya ((by rw[hg];exact(Yi (by repeat(first|(with_reducible first|exact HB.out|apply Ye|apply Yd|apply Yg)|exact HB.out))):w.heap.size≤Jz));clear HB;have HB:=n0_;have Vi:=n1_;have GW539:=n2_;have GE539:=n3_;clear n0_ n1_ n2_ n3_;clear hb Zf hg;have Ui:w9.cell? ⟨Jz,0,none⟩=some (.int .i64 Zb):=(Yc Vi.out 0).trans rfl;have Uj:w9.cell? ⟨Jz,1,none⟩=some (.bool Zc):=(Yc Vi.out 1).trans rfl;have hcz10_2:w9.cell? ⟨Jz,2,none⟩=some (.slice Ze Za.length Zd):=(Yc Vi.out 2).trans rfl;have Uk:=Yf Vi.out 0;have Ul:=Yf Vi.out 1;have hfz10_2:=Yf Vi.out 2)|((with_reducible refine gate_callee (f:=29) rfl ?_);refine goesL_ (some 18) rfl rfl Try.func29 (by kernel_rfl) rfl #[.agg #[.int .i64 Zb, .bool Zc, .slice Ze Za.length Zd], .int .i64 a1, .int .i64 a2, .int .i64 a3] rfl (by(try simp only[List.map_toArray,List.map_cons,List.map_nil]);first|done|rfl|(simp only[List.length_drop,List.length_take];rfl)) ?_;(with_reducible refine(ebbtideref15_Build.calls k Zb Zc _ _ Za a1 a2 a3 t540 t541 t542 t545 _ ?side1 ?side2 A5.out).mono ?_);(case side1=>repeat(first|exact(Yt Zo.out HB.out)|(with_reducible refine Kd.C_alloc ?_ _)|(with_reducible refine Kd.C_drewN ?_ _)|(with_reducible refine Kd.C_drew ?_)));(case side2=>exact Zz.out);rintro e w11 ⟨v543,rfl,ho0,hb⟩;refine⟨_,rfl,?_⟩;have n0_:=Ya (Kd.R_lower ho0 (Yi (by repeat(first|(with_reducible first|exact HB.out|apply Ye|apply Yd|apply Yg|refine Yh ?_ GE539.out)|exact HB.out))));have n1_:=Ya (Yn (g:=Jz) (o:= .cells #[.int .i64 Zb, .bool Zc, .slice Ze Za.length Zd] 32 (0,0)) (by(with_reducible repeat(first|refine Yl ?_ _|refine Ym ?_|refine Yj ?_ _));exact Vi.out) hb);have n2_:=Ya (Yk (by repeat(first|(with_reducible first|exact HB.out|apply Ye|apply Yd|apply Yg|refine Yh ?_ GE539.out)|exact HB.out)) hb);clear Vi;clear HB;have HO544:=n0_;have Vi:=n1_;have HB:=n2_;clear n0_ n1_ n2_;(try clear hb);(try clear hb2);(try clear hk);(try clear hi);(try clear ho0))|((with_reducible refine gate_dst (N:=10) rfl ?_);refine Yz ?hg (N:=10) ?hd (cs:= #[.int .i64 0, .bool false, .slice none 0 0]) (t:=32) ?hr ?_;(case hd=>rfl);(case hg=>rfl);(case hr=>first|(go_simp;done)|(go_simp;rfl));intro Ji hg w12 Zf hb;have n0_:=Ya (Ys (by(with_reducible repeat(first|apply Yr|apply Yq|apply Yp));exact HO544.out) hb);have n1_:=Ya (Yn (g:=Jz) (o:= .cells #[.int .i64 Zb, .bool Zc, .slice Ze Za.length Zd] 32 (0,0)) (by(with_reducible repeat(first|refine Yl ?_ _|refine Ym ?_|refine Yj ?_ _));exact Vi.out) hb);have n2_:=Ya (Yk (by repeat(first|(with_reducible first|exact HB.out|apply Ye|apply Yd|apply Yg|refine Yh ?_ GE539.out)|exact HB.out)) hb);have n3_:=Ya (Zf);have n4_:=Ya ((by rw[hg];exact(Yi (by repeat(first|(with_reducible first|exact HB.out|apply Ye|apply Yd|apply Yg|refine Yh ?_ GE539.out)|exact HB.out))):w.heap.size≤Ji));have n5_:=Ya ((by rw[hg];exact(Yi (by repeat(first|(with_reducible first|exact HB.out|apply Ye|apply Yd|apply Yg|refine Yh ?_ GE539.out)|exact HB.out))):w.heap.size≤Ji));have n6_:=Ya ((by rw[hg];exact Nat.ne_of_lt (blk_lt (g:=Jz) (o:= .cells #[.int .i64 Zb, .bool Zc, .slice Ze Za.length Zd] 32 (0,0)) (by(with_reducible repeat(first|refine Yl ?_ _|refine Ym ?_|refine Yj ?_ _));exact Vi.out)):Jz≠Ji));have n7_:=Ya ((by rw[hg];exact Nat.ne_of_gt (blk_lt (g:=Jz) (o:= .cells #[.int .i64 Zb, .bool Zc, .slice Ze Za.length Zd] 32 (0,0)) (by(with_reducible repeat(first|refine Yl ?_ _|refine Ym ?_|refine Yj ?_ _));exact Vi.out)):Ji≠Jz));clear HO544;clear Vi;clear HB;have HO544:=n0_;have Vi:=n1_;have HB:=n2_;have Jd:=n3_;have GW546:=n4_;have GE546:=n5_;have NB539_546:=n6_;have NB546_539:=n7_;clear n0_ n1_ n2_ n3_ n4_ n5_ n6_ n7_;clear hb Zf hg;have hnb13:=NB546_539.out;have hnc13:=NB539_546.out;have hcz14_0:w12.cell? ⟨Ji,0,none⟩=some (.int .i64 0):=(Yc Jd.out 0).trans rfl;have hcz14_1:w12.cell? ⟨Ji,1,none⟩=some (.bool false):=(Yc Jd.out 1).trans rfl;have hcz14_2:w12.cell? ⟨Ji,2,none⟩=some (.slice none 0 0):=(Yc Jd.out 2).trans rfl;have hfz14_0:=Yf Jd.out 0;have hfz14_1:=Yf Jd.out 1;have hfz14_2:=Yf Jd.out 2;obtain⟨Ao15,co15,eo15⟩:=Kd.R_slice HO544.out;subst eo15)|((with_reducible refine gate_callee (f:=30) rfl ?_);refine goesL_ (some 31) rfl rfl Try.func30 (by kernel_rfl) rfl #[.agg #[.int .i64 t540, .bool t541, .slice Ao15 t542.length co15], .int .i64 (wrap64 (t540 - 2)), .int .i64 (wrap64 (t540 - 1))] rfl (by(try simp only[List.map_toArray,List.map_cons,List.map_nil]);first|done|rfl|(simp only[List.length_drop,List.length_take];rfl)) ?_;(with_reducible refine(ebbtideref09_Best.calls k t540 t541 _ _ t542 (wrap64 (t540 - 2)) (wrap64 (t540 - 1)) t547 _ ?side1 ?side2 A7.out).mono ?_);(case side1=>refine(Kd.R_reads' (e:=73) (base:=w.heap.size) (ok:=fun k_=>True) (n:=t542.length) (c:=co15) ?_).2.2;exact(by(with_reducible repeat(first|apply Yr|apply Yq|apply Yp));exact(Kd.R_mono (Kd.R_far (p:=⟨Ji,2,none⟩) (Kd.R_far (p:=⟨Ji,1,none⟩) (Kd.R_far (p:=⟨Ji,0,none⟩) (Kd.R_types HO544.out Jd.out (by decide)) (fun _ hk=>hk.2) (.int .i64 t540)) (fun _ hk=>hk.2) (.bool t541)) (fun _ hk=>hk.2) (.slice Ao15 t542.length co15)) (fun _ h_=>h_.1))));(case side2=>exact(Kd.R_reads' HO544.out).2.1);rintro e w16 ⟨v548,rfl,ho0,hb⟩;refine⟨_,rfl,?_⟩;have n0_:=Ya (Ys (by(with_reducible repeat(first|apply Yr|apply Yq|apply Yp));exact(Kd.R_mono (Kd.R_far (p:=⟨Ji,2,none⟩) (Kd.R_far (p:=⟨Ji,1,none⟩) (Kd.R_far (p:=⟨Ji,0,none⟩) (Kd.R_types HO544.out Jd.out (by decide)) (fun _ hk=>hk.2) (.int .i64 t540)) (fun _ hk=>hk.2) (.bool t541)) (fun _ hk=>hk.2) (.slice Ao15 t542.length co15)) (fun _ h_=>h_.1))) hb);have n1_:=Ya (Kd.R_lower ho0 (Yi (by repeat(first|(with_reducible first|exact HB.out|apply Ye|apply Yd|apply Yg|refine Yh ?_ GE539.out|refine Yh ?_ GE546.out)|exact HB.out))));have n2_:=Ya (Yn (g:=Jz) (o:= .cells #[.int .i64 Zb, .bool Zc, .slice Ze Za.length Zd] 32 (0,0)) (by(with_reducible repeat(first|refine Yl ?_ _|refine Ym ?_|refine Yj ?_ _));refine blk_far ?_ NB539_546.out _;(with_reducible repeat(first|refine Yl ?_ _|refine Ym ?_|refine Yj ?_ _));refine blk_far ?_ NB539_546.out _;(with_reducible repeat(first|refine Yl ?_ _|refine Ym ?_|refine Yj ?_ _));refine blk_far ?_ NB539_546.out _;(with_reducible repeat(first|refine Yl ?_ _|refine Ym ?_|refine Yj ?_ _));exact Vi.out) hb);have n3_:=Ya (Yn (g:=Ji) (o:= .cells #[.int .i64 t540, .bool t541, .slice Ao15 t542.length co15] 32 (0,0)) (by(with_reducible repeat(first|refine Yl ?_ _|refine Ym ?_|refine Yj ?_ _));refine YA (cs:= #[.int .i64 t540, .bool t541, .slice none 0 0]) ?_ 2 _ rfl;(with_reducible repeat(first|refine Yl ?_ _|refine Ym ?_|refine Yj ?_ _));refine YA (cs:= #[.int .i64 t540, .bool false, .slice none 0 0]) ?_ 1 _ rfl;(with_reducible repeat(first|refine Yl ?_ _|refine Ym ?_|refine Yj ?_ _));refine YA (cs:= #[.int .i64 0, .bool false, .slice none 0 0]) ?_ 0 _ rfl;(with_reducible repeat(first|refine Yl ?_ _|refine Ym ?_|refine Yj ?_ _));exact Jd.out) hb);have n4_:=Ya (Yk (by repeat(first|(with_reducible first|exact HB.out|apply Ye|apply Yd|apply Yg|refine Yh ?_ GE539.out|refine Yh ?_ GE546.out)|exact HB.out)) hb);clear HO544;clear Vi;clear Jd;clear HB;have HO544:=n0_;have HO549:=n1_;have Vi:=n2_;have Jd:=n3_;have HB:=n4_;clear n0_ n1_ n2_ n3_ n4_;(try clear hb);(try clear hb2);(try clear hk);(try clear hi);(try clear ho0);have Vj:w16.cell? ⟨Ji,0,none⟩=some (.int .i64 t540):=(Yc Jd.out 0).trans rfl;have Vk:w16.cell? ⟨Ji,1,none⟩=some (.bool t541):=(Yc Jd.out 1).trans rfl;have hcz17_2:w16.cell? ⟨Ji,2,none⟩=some (.slice Ao15 t542.length co15):=(Yc Jd.out 2).trans rfl;have Vl:=Yf Jd.out 0;have Vm:=Yf Jd.out 1;have hfz17_2:=Yf Jd.out 2;obtain⟨Ao18,co18,eo18⟩:=Kd.R_slice HO549.out;subst eo18)|((with_reducible refine gate_callee (f:=31) rfl ?_);refine goesL_ (some 37) rfl rfl Try.func31 (by kernel_rfl) rfl #[.agg #[.int .i64 t540, .bool t541, .slice Ao15 t542.length co15], .slice Ao18 t547.length co18, .int .i64 (wrap64 (t540 - 2))] rfl (by(try simp only[List.map_toArray,List.map_cons,List.map_nil]);first|done|rfl|(simp only[List.length_drop,List.length_take];rfl)) ?_;(with_reducible refine(ebbtideref07_Leaves.calls k t540 t541 _ _ t542 _ _ t547 (wrap64 (t540 - 2)) t550 _ ?side1 ?side2 ?side3 ?side4 A8.out).mono ?_);(case side1=>repeat(first|exact(Kd.R_reads' HO544.out).2.2|(with_reducible refine Kd.C_alloc ?_ _)|(with_reducible refine Kd.C_drewN ?_ _)|(with_reducible refine Kd.C_drew ?_)));(case side2=>exact(Kd.R_reads' HO544.out).2.1);(case side3=>repeat(first|exact(Kd.R_reads' HO549.out).2.2|(with_reducible refine Kd.C_alloc ?_ _)|(with_reducible refine Kd.C_drewN ?_ _)|(with_reducible refine Kd.C_drew ?_)));(case side4=>exact(Kd.R_reads' HO549.out).2.1);rintro e w19 ⟨rfl,hb⟩;refine⟨_,rfl,?_⟩;have n0_:=Ya (Ys (by(with_reducible repeat(first|apply Yr|apply Yq|apply Yp));exact HO544.out) hb);have n1_:=Ya (Ys (by(with_reducible repeat(first|apply Yr|apply Yq|apply Yp));exact HO549.out) hb);have n2_:=Ya (Yn (g:=Jz) (o:= .cells #[.int .i64 Zb, .bool Zc, .slice Ze Za.length Zd] 32 (0,0)) (by(with_reducible repeat(first|refine Yl ?_ _|refine Ym ?_|refine Yj ?_ _));exact Vi.out) hb);have n3_:=Ya (Yn (g:=Ji) (o:= .cells #[.int .i64 t540, .bool t541, .slice Ao15 t542.length co15] 32 (0,0)) (by(with_reducible repeat(first|refine Yl ?_ _|refine Ym ?_|refine Yj ?_ _));exact Jd.out) hb);have n4_:=Ya (Yk (by repeat(first|(with_reducible first|exact HB.out|apply Ye|apply Yd|apply Yg|refine Yh ?_ GE539.out|refine Yh ?_ GE546.out)|exact HB.out)) hb);clear HO544;clear HO549;clear Vi;clear Jd;clear HB;have HO544:=n0_;have HO549:=n1_;have Vi:=n2_;have Jd:=n3_;have HB:=n4_;clear n0_ n1_ n2_ n3_ n4_;(try clear hb);(try clear hb2);(try clear hk);(try clear hi)));go_ret2;exact⟨by first|rfl|(simp[errW_none,errW_some]<;>rfl)|(simp[*,errW_none,errW_some]<;>rfl),by repeat(first|(with_reducible first|exact HB.out|apply Ye|apply Yd|apply Yg|refine Yh ?_ GE539.out|refine Yh ?_ GE546.out)|exact HB.out)⟩
end P
namespace P
attribute [local go_sem] max2_int min2_int max_two min_two max_three min_three max_four min_four
def ebbtideref16_Slots.l0:Nat→Int→List (S53)→List (S113)→Int→Int→Bool→List (S73)→Int→Bool→List (S73)→Option ((List (S53)))
 |0,_,_,_,_,_,_,_,_,_,_=>none
 |k+1,x1,x9,x10,x11,x552000,x552001,x552002,x553000,x553001,x553002=>if x11<(wrap64 ((wrap64 (x1+1)) * x552000)) then((ebbtideref08_Way.f x553000 x553001 x553002 (wrap64 (x553000 - 2)) x11 x10).bind fun bt556=>(if bt556.2=true then(if x552000=0 then(none) else(if x9.length<8796093022208 then(ebbtideref16_Slots.l0 k x1 (x9 ++ [(⟨Int.tmod x11 x552000,wrap64 (Int.tdiv x11 x552000)⟩:S53)]) x10 (wrap64 (x11+1)) x552000 x552001 x552002 x553000 x553001 x553002) else(none))) else(ebbtideref16_Slots.l0 k x1 x9 x10 (wrap64 (x11+1)) x552000 x552001 x552002 x553000 x553001 x553002))) else(some x9)
def ebbtideref16_Slots.f (k:Nat) (Zb:Int) (Zc:Bool) (Za:List (S73)) (a1:Int) (Xf:Int) (a2_1:Bool) (l2_2:List (S73)) (l3:List Int):Option ((List (S53))):=(ebbtideref07_Steps.f k Xf a2_1 l2_2 l3).bind fun t553=>(ebbtideref16_Slots.l0 k a1 ([]:List (S53)) t553 0 Zb Zc Za Xf a2_1 l2_2)
def ebbtideref16_Slots.T8:Bool × List (List Nat × List Nat):=(true,[([],[]),([],[]),([],[]),([2],[2]),([1,3],[1,3]),([],[]),([],[]),([6],[6]),([5,7],[5,7]),([4,8],[4,8]),([9],[9]),([0,10],[0,10]),([11,11,0,1,2,3,4,5,6,7,8,9,10,11],[0,11])])
def ebbtideref16_Slots.B8:List Nat:=[0,0,0,4,14,0,0,64,224,510,1022,2047,4095]
theorem ebbtideref16_Slots.tab8:rtab .any (opsOf Try.f32 8)=ebbtideref16_Slots.T8:=by kernel_rfl
theorem ebbtideref16_Slots.bits8:waitsOk ebbtideref16_Slots.T8.2 ebbtideref16_Slots.B8=true:=by kernel_rfl
set_option maxHeartbeats 8000000 in
set_option maxRecDepth 100000 in
theorem ebbtideref16_Slots.calls (k:Nat) (Zb:Int) (Zc:Bool) (Ze:Option Addr) (Zd:Nat) (Za:List (S73)) (a1:Int) (Xf:Int) (a2_1:Bool) (A2_2:Option Addr) (c2_2:Nat) (l2_2:List (S73)) (A3:Option Addr) (c3:Nat) (l3:List Int) (r:List (S53)) (w:World) (Zx:Kd.C k73 w Ze Za.length Za) (Zy:Za.length≤Zd) (hr2_2:Kd.C k73 w A2_2 l2_2.length l2_2) (hc2_2:l2_2.length≤c2_2) (hr3:Kd.C (Kd.int .i64) w A3 l3.length l3) (hc3:l3.length≤c3) (h:ebbtideref16_Slots.f k Zb Zc Za a1 Xf a2_1 l2_2 l3=some r):
  Calls Try.prog 32 #[.agg #[.int .i64 Zb, .bool Zc, .slice Ze Za.length Zd], .int .i64 a1, .agg #[.int .i64 Xf, .bool a2_1, .slice A2_2 l2_2.length c2_2], .slice A3 l3.length c3] w fun e w'=> ∃ v0_:Value,e= .returned (v0_)∧Kd.R k53 53 w' w.heap.size (fun _=>True) v0_ r∧Below w.heap.size w w':=by
 have hu32:=Try.underlying32;have hu53:=Try.underlying53;have Zo:=Ya Zx;have Zz:=Ya Zy;clear Zx Zy;have HR2_2:=Ya hr2_2;have HC2_2:=Ya hc2_2;clear hr2_2 hc2_2;have HR3:=Ya hr3;have HC3:=Ya hc3;clear hr3 hc3;have HB:=Ya (Yo w.heap.size w);have H:((ebbtideref07_Steps.f k Xf a2_1 l2_2 l3).bind fun t553=>(ebbtideref16_Slots.l0 k a1 ([]:List (S53)) t553 0 Zb Zc Za Xf a2_1 l2_2))=some r:=h;clear h;replace H:=Option.bind_eq_some_iff.mp H;obtain⟨t553,A50,H⟩:=H;replace H:(ebbtideref16_Slots.l0 k a1 ([]:List (S53)) t553 0 Zb Zc Za Xf a2_1 l2_2)=some r:=H;have A5:=Ya A50;clear A50;have H':=Ya H;clear H;go_enter Try.func32,Try.ntmps32;go_wp2_with (first|((with_reducible refine gate_dst (N:=4) rfl ?_);refine Yz ?hg (N:=4) ?hd (cs:= #[.int .i64 Zb, .bool Zc, .slice Ze Za.length Zd]) (t:=32) ?hr ?_;(case hd=>rfl);(case hg=>rfl);(case hr=>first|(go_simp;done)|(go_simp;rfl));intro gb551 hg w6 Zf hb;have n0_:=Ya (Yk (by repeat(first|(with_reducible first|exact HB.out|apply Ye|apply Yd|apply Yg)|exact HB.out)) hb);have n1_:=Ya (Zf);have n2_:=Ya ((by rw[hg];exact(Yi (by repeat(first|(with_reducible first|exact HB.out|apply Ye|apply Yd|apply Yg)|exact HB.out))):w.heap.size≤gb551));have n3_:=Ya ((by rw[hg];exact(Yi (by repeat(first|(with_reducible first|exact HB.out|apply Ye|apply Yd|apply Yg)|exact HB.out))):w.heap.size≤gb551));clear HB;have HB:=n0_;have Xz:=n1_;have GW551:=n2_;have GE551:=n3_;clear n0_ n1_ n2_ n3_;clear hb Zf hg)|((with_reducible refine gate_dst (N:=6) rfl ?_);refine Yz ?hg (N:=6) ?hd (cs:= #[.int .i64 Xf, .bool a2_1, .slice A2_2 l2_2.length c2_2]) (t:=32) ?hr ?_;(case hd=>rfl);(case hg=>rfl);(case hr=>first|(go_simp;done)|(go_simp;rfl));intro gb552 hg w7 Zf hb;have n0_:=Ya (Yn (g:=gb551) (o:= .cells #[.int .i64 Zb, .bool Zc, .slice Ze Za.length Zd] 32 (0,0)) (by(with_reducible repeat(first|refine Yl ?_ _|refine Ym ?_|refine Yj ?_ _));exact Xz.out) hb);have n1_:=Ya (Yk (by repeat(first|(with_reducible first|exact HB.out|apply Ye|apply Yd|apply Yg|refine Yh ?_ GE551.out)|exact HB.out)) hb);have n2_:=Ya (Zf);have n3_:=Ya ((by rw[hg];exact(Yi (by repeat(first|(with_reducible first|exact HB.out|apply Ye|apply Yd|apply Yg|refine Yh ?_ GE551.out)|exact HB.out))):w.heap.size≤gb552));have n4_:=Ya ((by rw[hg];exact(Yi (by repeat(first|(with_reducible first|exact HB.out|apply Ye|apply Yd|apply Yg|refine Yh ?_ GE551.out)|exact HB.out))):w.heap.size≤gb552));have n5_:=Ya ((by rw[hg];exact Nat.ne_of_lt (blk_lt (g:=gb551) (o:= .cells #[.int .i64 Zb, .bool Zc, .slice Ze Za.length Zd] 32 (0,0)) (by(with_reducible repeat(first|refine Yl ?_ _|refine Ym ?_|refine Yj ?_ _));exact Xz.out)):gb551≠gb552));have n6_:=Ya ((by rw[hg];exact Nat.ne_of_gt (blk_lt (g:=gb551) (o:= .cells #[.int .i64 Zb, .bool Zc, .slice Ze Za.length Zd] 32 (0,0)) (by(with_reducible repeat(first|refine Yl ?_ _|refine Ym ?_|refine Yj ?_ _));exact Xz.out)):gb552≠gb551));clear Xz;clear HB;have Xz:=n0_;have HB:=n1_;have Va:=n2_;have GW552:=n3_;have GE552:=n4_;have NB551_552:=n5_;have NB552_551:=n6_;clear n0_ n1_ n2_ n3_ n4_ n5_ n6_;clear hb Zf hg;have hnb8:=NB552_551.out;have hnc8:=NB551_552.out;have hcz9_0:w7.cell? ⟨gb552,0,none⟩=some (.int .i64 Xf):=(Yc Va.out 0).trans rfl;have hcz9_1:w7.cell? ⟨gb552,1,none⟩=some (.bool a2_1):=(Yc Va.out 1).trans rfl;have hcz9_2:w7.cell? ⟨gb552,2,none⟩=some (.slice A2_2 l2_2.length c2_2):=(Yc Va.out 2).trans rfl;have hfz9_0:=Yf Va.out 0;have hfz9_1:=Yf Va.out 1;have hfz9_2:=Yf Va.out 2)|((with_reducible refine gate_callee (f:=41) rfl ?_);refine goesL_ (some 16) rfl rfl Try.func41 (by kernel_rfl) rfl #[.agg #[.int .i64 Xf, .bool a2_1, .slice A2_2 l2_2.length c2_2], .slice A3 l3.length c3] rfl (by(try simp only[List.map_toArray,List.map_cons,List.map_nil]);first|done|rfl|(simp only[List.length_drop,List.length_take];rfl)) ?_;(with_reducible refine(ebbtideref07_Steps.calls k Xf a2_1 _ _ l2_2 _ _ l3 t553 _ ?side1 ?side2 ?side3 ?side4 A5.out).mono ?_);(case side1=>repeat(first|exact(Yt HR2_2.out HB.out)|(with_reducible refine Kd.C_alloc ?_ _)|(with_reducible refine Kd.C_drewN ?_ _)|(with_reducible refine Kd.C_drew ?_)));(case side2=>exact HC2_2.out);(case side3=>repeat(first|exact(Yt HR3.out HB.out)|(with_reducible refine Kd.C_alloc ?_ _)|(with_reducible refine Kd.C_drewN ?_ _)|(with_reducible refine Kd.C_drew ?_)));(case side4=>exact HC3.out);rintro e w10 ⟨v554,rfl,ho0,hb⟩;refine⟨_,rfl,?_⟩;have n0_:=Ya (Kd.R_lower ho0 (Yi (by repeat(first|(with_reducible first|exact HB.out|apply Ye|apply Yd|apply Yg|refine Yh ?_ GE551.out|refine Yh ?_ GE552.out)|exact HB.out))));have n1_:=Ya (Yn (g:=gb551) (o:= .cells #[.int .i64 Zb, .bool Zc, .slice Ze Za.length Zd] 32 (0,0)) (by(with_reducible repeat(first|refine Yl ?_ _|refine Ym ?_|refine Yj ?_ _));exact Xz.out) hb);have n2_:=Ya (Yn (g:=gb552) (o:= .cells #[.int .i64 Xf, .bool a2_1, .slice A2_2 l2_2.length c2_2] 32 (0,0)) (by(with_reducible repeat(first|refine Yl ?_ _|refine Ym ?_|refine Yj ?_ _));exact Va.out) hb);have n3_:=Ya (Yk (by repeat(first|(with_reducible first|exact HB.out|apply Ye|apply Yd|apply Yg|refine Yh ?_ GE551.out|refine Yh ?_ GE552.out)|exact HB.out)) hb);clear Xz;clear Va;clear HB;have HO555:=n0_;have Xz:=n1_;have Va:=n2_;have HB:=n3_;clear n0_ n1_ n2_ n3_;(try clear hb);(try clear hb2);(try clear hk);(try clear hi);(try clear ho0)));go_loopg [9,11] k (fun kq v9 v11 w'=> ∃ (Xn:List (S53)) (Wv:Int),v11= .int .i64 Wv∧Aside0 (ebbtideref16_Slots.l0 kq a1 Xn t553 Wv Zb Zc Za Xf a2_1 l2_2=some r)∧Aside0 (kq≤k)∧Aside0 (Kd.R k53 53 w' w.heap.size (fun _=>True) v9 Xn)∧Aside0 (Kd.R k113 113 w' w.heap.size (fun _=>True) v554 t553)∧Aside0 (w'.heap[gb551]? =some (.cells #[.int .i64 Zb, .bool Zc,(.slice Ze Za.length Zd)] 32 (0,0)))∧Aside0 (w'.heap[gb552]? =some (.cells #[.int .i64 Xf, .bool a2_1,(.slice A2_2 l2_2.length c2_2)] 32 (0,0)))∧Aside0 (Below w.heap.size w w'))
 case atStart=>exact⟨(([]:List (S53))),(0),(by first|rfl|(simp;done)|(simp[*];done)),H',⟨Nat.le_refl _⟩,⟨by first|exact Kd.R_nil _ _ _ _ _|exact Kd.N_nil _ _ _ _ _|exact Kd.V_nil _ _ _ _ _|exact Kd.Q_nil _ _ _ _ _|exact Kd.S_nil _ _ _ _ _⟩,⟨by(with_reducible repeat(first|apply Yr|apply Yq|apply Yp));exact HO555.out⟩,⟨by(with_reducible repeat(first|refine Yl ?_ _|refine Ym ?_|refine Yj ?_ _));exact Xz.out⟩,⟨by(with_reducible repeat(first|refine Yl ?_ _|refine Ym ?_|refine Yj ?_ _));exact Va.out⟩,⟨by repeat(first|(with_reducible first|exact HB.out|apply Ye|apply Yd|apply Yg|refine Yh ?_ GE551.out|refine Yh ?_ GE552.out)|exact HB.out)⟩⟩
 case round=>
  clear H';try clear c2
  try clear p2
  try clear c3
  try clear c4
  try clear c8
  try clear hcz9_0
  try clear hcz9_1
  try clear hcz9_2
  try clear hfz9_0
  try clear hfz9_1
  try clear hfz9_2
  obtain⟨Xn,Wv,rfl,HA,HK1,HO_9,HO_10,Xz,Va,HB⟩:=hrel;cases gk with
  |zero=>exact absurd HA.out (by simp[ebbtideref16_Slots.l0])
  |succ k1=>
   have H:=HA.out;clear HA;simp only[ebbtideref16_Slots.l0] at H;by_cases c11:Wv<(wrap64 ((wrap64 (a1+1)) * Zb))
   rotate_left
   ·rw[Yy c11] at H
    have c11b0:decide (Wv<(wrap64 ((wrap64 (a1+1)) * Zb)))=false:=Yw c11;clear c11;obtain rfl:=Option.some.inj H;have hnb28:=NB551_552.out;have hnc28:=NB552_551.out;have hcz29_0:wr.cell? ⟨gb551,0,none⟩=some (.int .i64 Zb):=(Yc Xz.out 0).trans rfl;have hcz29_1:wr.cell? ⟨gb551,1,none⟩=some (.bool Zc):=(Yc Xz.out 1).trans rfl;have hcz29_2:wr.cell? ⟨gb551,2,none⟩=some (.slice Ze Za.length Zd):=(Yc Xz.out 2).trans rfl;have hfz29_0:=Yf Xz.out 0;have hfz29_1:=Yf Xz.out 1;have hfz29_2:=Yf Xz.out 2;go_wp2;go_ret;exact⟨_,by first|rfl|(simp[errW_none,errW_some]<;>rfl)|(simp[*,errW_none,errW_some]<;>rfl),by(with_reducible repeat(first|apply Yr|apply Yq|apply Yp));exact HO_9.out,by repeat(first|(with_reducible first|exact HB.out|apply Ye|apply Yd|apply Yg|refine Yh ?_ GE551.out|refine Yh ?_ GE552.out)|exact HB.out)⟩
   rw[Yx c11] at H;have c11b0:decide (Wv<(wrap64 ((wrap64 (a1+1)) * Zb)))=true:=Yv c11;clear c11;replace H:=Option.bind_eq_some_iff.mp H;obtain⟨⟨t556,t559⟩,A120,H⟩:=H;replace H:(if t559=true then(if Zb=0 then(none) else(if Xn.length<8796093022208 then(ebbtideref16_Slots.l0 k1 a1 (Xn ++ [(⟨Int.tmod Wv Zb,wrap64 (Int.tdiv Wv Zb)⟩:S53)]) t553 (wrap64 (Wv+1)) Zb Zc Za Xf a2_1 l2_2) else(none))) else(ebbtideref16_Slots.l0 k1 a1 Xn t553 (wrap64 (Wv+1)) Zb Zc Za Xf a2_1 l2_2))=some r:=H;have A12:=Ya A120;clear A120;by_cases c13:t559=true
   rotate_left
   ·replace c13:=Bool.eq_false_iff.mpr c13
    subst c13;have H1:(ebbtideref16_Slots.l0 k1 a1 Xn t553 (wrap64 (Wv+1)) Zb Zc Za Xf a2_1 l2_2)=some r:=by rw[Yy (show ¬ (false=true) by decide)] at H;exact H
    clear H;have H:=H1;clear H1;have H':=Ya H;clear H;have hnb23:=NB551_552.out;have hnc23:=NB552_551.out;have hcz24_0:wr.cell? ⟨gb551,0,none⟩=some (.int .i64 Zb):=(Yc Xz.out 0).trans rfl;have hcz24_1:wr.cell? ⟨gb551,1,none⟩=some (.bool Zc):=(Yc Xz.out 1).trans rfl;have hcz24_2:wr.cell? ⟨gb551,2,none⟩=some (.slice Ze Za.length Zd):=(Yc Xz.out 2).trans rfl;have hfz24_0:=Yf Xz.out 0;have hfz24_1:=Yf Xz.out 1;have hfz24_2:=Yf Xz.out 2;have hcz25_0:wr.cell? ⟨gb552,0,none⟩=some (.int .i64 Xf):=(Yc Va.out 0).trans rfl;have hcz25_1:wr.cell? ⟨gb552,1,none⟩=some (.bool a2_1):=(Yc Va.out 1).trans rfl;have hcz25_2:wr.cell? ⟨gb552,2,none⟩=some (.slice A2_2 l2_2.length c2_2):=(Yc Va.out 2).trans rfl;have hfz25_0:=Yf Va.out 0;have hfz25_1:=Yf Va.out 1;have hfz25_2:=Yf Va.out 2;obtain⟨Ao26,co26,eo26⟩:=Kd.R_slice HO_10.out;subst eo26;go_wp2_with (first|((with_reducible refine gate_callee (f:=40) rfl ?_);refine goesL_ (some 33) rfl rfl Try.func40 (by kernel_rfl) rfl #[.agg #[.int .i64 Xf, .bool a2_1, .slice A2_2 l2_2.length c2_2], .int .i64 (wrap64 (Xf - 2)), .int .i64 Wv, .slice Ao26 t553.length co26] rfl (by(try simp only[List.map_toArray,List.map_cons,List.map_nil]);first|done|rfl|(simp only[List.length_drop,List.length_take];rfl)) ?_;(with_reducible refine(ebbtideref08_Way.calls Xf a2_1 _ _ l2_2 (wrap64 (Xf - 2)) Wv _ _ t553 t556 false _ ?side1 ?side2 ?side3 ?side4 A12.out).mono ?_);(case side1=>repeat(first|exact(Yt HR2_2.out HB.out)|(with_reducible refine Kd.C_alloc ?_ _)|(with_reducible refine Kd.C_drewN ?_ _)|(with_reducible refine Kd.C_drew ?_)));(case side2=>exact HC2_2.out);(case side3=>repeat(first|exact(Kd.R_reads' HO_10.out).2.2|(with_reducible refine Kd.C_alloc ?_ _)|(with_reducible refine Kd.C_drewN ?_ _)|(with_reducible refine Kd.C_drew ?_)));(case side4=>exact(Kd.R_reads' HO_10.out).2.1);rintro e w27 ⟨v557,rfl,ho0,hb⟩;refine⟨_,rfl,?_⟩;have n0_:=Ya (Ys (by(with_reducible repeat(first|apply Yr|apply Yq|apply Yp));exact HO_9.out) hb);have n1_:=Ya (Kd.R_elder' (by(with_reducible repeat(first|apply Yr|apply Yq|apply Yp));exact HO_10.out) (Kd.R_base ho0) hb);have n2_:=Ya (Kd.R_lower (Kd.R_new' ho0 (Kd.R_lt (by(with_reducible repeat(first|apply Yr|apply Yq|apply Yp));exact HO_10.out))) (Yi (by repeat(first|(with_reducible first|exact HB.out|apply Ye|apply Yd|apply Yg|refine Yh ?_ GE551.out|refine Yh ?_ GE552.out)|exact HB.out))));have n3_:=Ya (Yn (g:=gb551) (o:= .cells #[.int .i64 Zb, .bool Zc, .slice Ze Za.length Zd] 32 (0,0)) (by(with_reducible repeat(first|refine Yl ?_ _|refine Ym ?_|refine Yj ?_ _));exact Xz.out) hb);have n4_:=Ya (Yn (g:=gb552) (o:= .cells #[.int .i64 Xf, .bool a2_1, .slice A2_2 l2_2.length c2_2] 32 (0,0)) (by(with_reducible repeat(first|refine Yl ?_ _|refine Ym ?_|refine Yj ?_ _));exact Va.out) hb);have n5_:=Ya (Yk (by repeat(first|(with_reducible first|exact HB.out|apply Ye|apply Yd|apply Yg|refine Yh ?_ GE551.out|refine Yh ?_ GE552.out)|exact HB.out)) hb);clear HO_9;clear HO_10;clear Xz;clear Va;clear HB;have HO_9:=n0_;have HO_10:=n1_;have HO558:=n2_;have Xz:=n3_;have Va:=n4_;have HB:=n5_;clear n0_ n1_ n2_ n3_ n4_ n5_;(try clear hb);(try clear hb2);(try clear hk);(try clear hi);(try clear ho0)));go_roundg k1
    case measure=>have:=HK1.out;omega
    case rel=>exact⟨(Xn),(wrap64 (Wv+1)),(by first|rfl|(simp;done)|(simp[*];done)),H',⟨by have:=HK1.out;omega⟩,⟨by(with_reducible repeat(first|apply Yr|apply Yq|apply Yp));exact HO_9.out⟩,⟨by(with_reducible repeat(first|apply Yr|apply Yq|apply Yp));exact Kd.R_mono HO_10.out (fun _ hk=>trivial)⟩,⟨by(with_reducible repeat(first|refine Yl ?_ _|refine Ym ?_|refine Yj ?_ _));exact Xz.out⟩,⟨by(with_reducible repeat(first|refine Yl ?_ _|refine Ym ?_|refine Yj ?_ _));exact Va.out⟩,⟨by repeat(first|(with_reducible first|exact HB.out|apply Ye|apply Yd|apply Yg|refine Yh ?_ GE551.out|refine Yh ?_ GE552.out)|exact HB.out)⟩⟩
   subst c13;have H1:(if Zb=0 then(none) else(if Xn.length<8796093022208 then(ebbtideref16_Slots.l0 k1 a1 (Xn ++ [(⟨Int.tmod Wv Zb,wrap64 (Int.tdiv Wv Zb)⟩:S53)]) t553 (wrap64 (Wv+1)) Zb Zc Za Xf a2_1 l2_2) else(none)))=some r:=by first|(rw[Yx rfl] at H;exact H)|(rw[Yx trivial] at H;exact H)
   clear H;have H:=H1;clear H1;by_cases c14:Zb=0
   ·rw[Yx c14] at H
    exact absurd H (by simp)
   rw[Yy c14] at H;have c14b0:(Zb == 0)=false:=beq_eq_false_iff_ne.mpr c14;have c14b1:(Zb != 0)=true:=bne_iff_ne.mpr c14;by_cases c15:Xn.length<8796093022208
   rotate_left
   ·rw[Yy c15] at H
    exact absurd H (by simp)
   rw[Yx c15] at H;have LMc15:=Ya c15;clear c15;obtain⟨y560,hy560⟩: ∃ y_:List (S53),y_=(Xn ++ [(⟨Int.tmod Wv Zb,wrap64 (Int.tdiv Wv Zb)⟩:S53)]):=⟨_,rfl⟩;replace H:(ebbtideref16_Slots.l0 k1 a1 y560 t553 (wrap64 (Wv+1)) Zb Zc Za Xf a2_1 l2_2)=some r:=by first|(rw[hy560];with_reducible exact H)|(have H2_:=(Option.bind_some _ _).symm.trans H;rw[hy560];with_reducible exact H2_)|(have H2_:=(Option.bind_some _ _).symm.trans H;with_reducible exact H2_)|with_reducible exact H|(rw[hy560];exact H)|exact H
   have Ny560:=Ya hy560;clear hy560;have H':=Ya H;clear H;have hnb16:=NB551_552.out;have hnc16:=NB552_551.out;have Vj:wr.cell? ⟨gb551,0,none⟩=some (.int .i64 Zb):=(Yc Xz.out 0).trans rfl;have Vk:wr.cell? ⟨gb551,1,none⟩=some (.bool Zc):=(Yc Xz.out 1).trans rfl;have hcz17_2:wr.cell? ⟨gb551,2,none⟩=some (.slice Ze Za.length Zd):=(Yc Xz.out 2).trans rfl;have Vl:=Yf Xz.out 0;have Vm:=Yf Xz.out 1;have hfz17_2:=Yf Xz.out 2;have hcz18_0:wr.cell? ⟨gb552,0,none⟩=some (.int .i64 Xf):=(Yc Va.out 0).trans rfl;have hcz18_1:wr.cell? ⟨gb552,1,none⟩=some (.bool a2_1):=(Yc Va.out 1).trans rfl;have hcz18_2:wr.cell? ⟨gb552,2,none⟩=some (.slice A2_2 l2_2.length c2_2):=(Yc Va.out 2).trans rfl;have hfz18_0:=Yf Va.out 0;have hfz18_1:=Yf Va.out 1;have hfz18_2:=Yf Va.out 2;obtain⟨Ao19,co19,eo19⟩:=Kd.R_slice HO_10.out;subst eo19;try go_wp2_with (first|((with_reducible refine gate_callee (f:=40) rfl ?_);refine goesL_ (some 33) rfl rfl Try.func40 (by kernel_rfl) rfl #[.agg #[.int .i64 Xf, .bool a2_1, .slice A2_2 l2_2.length c2_2], .int .i64 (wrap64 (Xf - 2)), .int .i64 Wv, .slice Ao19 t553.length co19] rfl (by(try simp only[List.map_toArray,List.map_cons,List.map_nil]);first|done|rfl|(simp only[List.length_drop,List.length_take];rfl)) ?_;(with_reducible refine(ebbtideref08_Way.calls Xf a2_1 _ _ l2_2 (wrap64 (Xf - 2)) Wv _ _ t553 t556 true _ ?side1 ?side2 ?side3 ?side4 A12.out).mono ?_);(case side1=>repeat(first|exact(Yt HR2_2.out HB.out)|(with_reducible refine Kd.C_alloc ?_ _)|(with_reducible refine Kd.C_drewN ?_ _)|(with_reducible refine Kd.C_drew ?_)));(case side2=>exact HC2_2.out);(case side3=>repeat(first|exact(Kd.R_reads' HO_10.out).2.2|(with_reducible refine Kd.C_alloc ?_ _)|(with_reducible refine Kd.C_drewN ?_ _)|(with_reducible refine Kd.C_drew ?_)));(case side4=>exact(Kd.R_reads' HO_10.out).2.1);rintro e w20 ⟨v557,rfl,ho0,hb⟩;refine⟨_,rfl,?_⟩;have n0_:=Ya (Ys (by(with_reducible repeat(first|apply Yr|apply Yq|apply Yp));exact HO_9.out) hb);have n1_:=Ya (Kd.R_elder' (by(with_reducible repeat(first|apply Yr|apply Yq|apply Yp));exact HO_10.out) (Kd.R_base ho0) hb);have n2_:=Ya (Kd.R_lower (Kd.R_new' ho0 (Kd.R_lt (by(with_reducible repeat(first|apply Yr|apply Yq|apply Yp));exact HO_10.out))) (Yi (by repeat(first|(with_reducible first|exact HB.out|apply Ye|apply Yd|apply Yg|refine Yh ?_ GE551.out|refine Yh ?_ GE552.out)|exact HB.out))));have n3_:=Ya (Yn (g:=gb551) (o:= .cells #[.int .i64 Zb, .bool Zc, .slice Ze Za.length Zd] 32 (0,0)) (by(with_reducible repeat(first|refine Yl ?_ _|refine Ym ?_|refine Yj ?_ _));exact Xz.out) hb);have n4_:=Ya (Yn (g:=gb552) (o:= .cells #[.int .i64 Xf, .bool a2_1, .slice A2_2 l2_2.length c2_2] 32 (0,0)) (by(with_reducible repeat(first|refine Yl ?_ _|refine Ym ?_|refine Yj ?_ _));exact Va.out) hb);have n5_:=Ya (Yk (by repeat(first|(with_reducible first|exact HB.out|apply Ye|apply Yd|apply Yg|refine Yh ?_ GE551.out|refine Yh ?_ GE552.out)|exact HB.out)) hb);clear HO_9;clear HO_10;clear Xz;clear Va;clear HB;have HO_9:=n0_;have HO_10:=n1_;have HO558:=n2_;have Xz:=n3_;have Va:=n4_;have HB:=n5_;clear n0_ n1_ n2_ n3_ n4_ n5_;(try clear hb);(try clear hb2);(try clear hk);(try clear hi);(try clear ho0)))
   have n0_:=Ya (Yp HO_9.out);have n1_:=Ya (Yp HO_10.out);have n2_:=Ya (Yp HO558.out);have n3_:=Ya (Ym Xz.out);have n4_:=Ya (Ym Va.out);have n5_:=Ya (Yg HB.out);clear HO_9;clear HO_10;clear HO558;clear Xz;clear Va;clear HB;have HO_9:=n0_;have HO_10:=n1_;have HO558:=n2_;have Xz:=n3_;have Va:=n4_;have HB:=n5_;clear n0_ n1_ n2_ n3_ n4_ n5_;refine start_ (n:=13) (S:=fun w'=>w'.cell? ⟨gb551,0,none⟩=some (.int .i64 Zb)∧w'.cell? ⟨gb551,1,none⟩=some (.bool Zc)∧w'.cell? ⟨gb551,2,none⟩=some (.slice Ze Za.length Zd)) (ds:=[]) #[false,false,false,false,false,false,false,false,false,false,false,false,false] (by kernel_rfl) rfl rfl ⟨(Yc Xz.out 0).trans rfl,(Yc Xz.out 1).trans rfl,(Yc Xz.out 2).trans rfl⟩ (fun hHeld=> ?_);refine with_tabW ebbtideref16_Slots.tab8 ebbtideref16_Slots.bits8 (fun HT_ HW_=> ?_);generalize w20.drew=w21 at HO_9 HO_10 HO558 Xz Va HB hHeld ⊢;refine pure_ (i:=0) (N:=some 37) (v:= ?_) (a':= ?_) #[true,false,false,false,false,false,false,false,false,false,false,false,false] rfl rfl (any_of HT_.out (by kernel_rfl)) (fun _ _ _ h=>h) (Or.inl ⟨by rfl,?_⟩) ?_ ?_
   rotate_left
   ·intro w'
    go_simp
    with_reducible rfl
   rotate_left
   ·simp only[Act.put,List.setIfInBounds_toArray,List.set_cons_zero,List.set_cons_succ,i64_w,i32_w]
    rfl
   refine pure_ (i:=1) (N:=some 38) (v:= ?_) (a':= ?_) #[true,true,false,false,false,false,false,false,false,false,false,false,false] rfl rfl (any_of HT_.out (by kernel_rfl)) (fun _ _ _ h=>h) (Or.inl ⟨by rfl,?_⟩) ?_ ?_
   rotate_left
   ·intro w'
    go_simp
    with_reducible rfl
   rotate_left
   ·simp only[Act.put,List.setIfInBounds_toArray,List.set_cons_zero,List.set_cons_succ,i64_w,i32_w]
    rfl
   refine pure_ (i:=2) (N:=some 39) (v:= ?_) (a':= ?_) #[true,true,true,false,false,false,false,false,false,false,false,false,false] rfl rfl (any_of HT_.out (by kernel_rfl)) (fun _ _ _ h=>h) (Or.inl ⟨by rfl,?_⟩) ?_ ?_
   rotate_left
   ·intro w'
    go_simp
    with_reducible rfl
   rotate_left
   ·simp only[Act.put,List.setIfInBounds_toArray,List.set_cons_zero,List.set_cons_succ,i64_w,i32_w]
    rfl
   refine pure_ (i:=5) (N:=some 42) (v:= ?_) (a':= ?_) #[true,true,true,false,false,true,false,false,false,false,false,false,false] rfl rfl (any_of HT_.out (by kernel_rfl)) (fun _ _ _ h=>h) (Or.inl ⟨by rfl,?_⟩) ?_ ?_
   rotate_left
   ·intro w'
    go_simp
    with_reducible rfl
   rotate_left
   ·simp only[Act.put,List.setIfInBounds_toArray,List.set_cons_zero,List.set_cons_succ,i64_w,i32_w]
    rfl
   refine pure_ (i:=6) (N:=some 43) (v:= ?_) (a':= ?_) #[true,true,true,false,false,true,true,false,false,false,false,false,false] rfl rfl (any_of HT_.out (by kernel_rfl)) (fun _ _ _ h=>h) (Or.inl ⟨by rfl,?_⟩) ?_ ?_
   rotate_left
   ·intro w'
    go_simp
    with_reducible rfl
   rotate_left
   ·simp only[Act.put,List.setIfInBounds_toArray,List.set_cons_zero,List.set_cons_succ,i64_w,i32_w]
    rfl
   refine take_ (i:=3) (N:=some 40) (v:= ?_) (a':= ?_) #[true,true,true,true,false,true,true,false,false,false,false,false,false] rfl rfl (take_ofW HT_.out HW_.out (by kernel_rfl)) (fun _ _ _ h=>h) (Or.inl ⟨by rfl,?_⟩) hHeld ?_ ?_
   rotate_left
   ·rintro w' ⟨s0,s1,s2⟩
    go_simp
    with_reducible rfl
   rotate_left
   ·simp only[Act.put,List.setIfInBounds_toArray,List.set_cons_zero,List.set_cons_succ,i64_w,i32_w]
    rfl
   refine pure_ (i:=4) (N:=some 41) (v:= ?_) (a':= ?_) #[true,true,true,true,true,true,true,false,false,false,false,false,false] rfl rfl (any_of HT_.out (by kernel_rfl)) (fun _ _ _ h=>h) (Or.inl ⟨by rfl,?_⟩) ?_ ?_
   rotate_left
   ·intro w'
    go_simp
    with_reducible rfl
   rotate_left
   ·simp only[Act.put,List.setIfInBounds_toArray,List.set_cons_zero,List.set_cons_succ,i64_w,i32_w]
    rfl
   refine take_ (i:=7) (N:=some 44) (v:= ?_) (a':= ?_) #[true,true,true,true,true,true,true,true,false,false,false,false,false] rfl rfl (take_ofW HT_.out HW_.out (by kernel_rfl)) (fun _ _ _ h=>h) (Or.inl ⟨by rfl,?_⟩) hHeld ?_ ?_
   rotate_left
   ·rintro w' ⟨s0,s1,s2⟩
    go_simp
    with_reducible rfl
   rotate_left
   ·simp only[Act.put,List.setIfInBounds_toArray,List.set_cons_zero,List.set_cons_succ,i64_w,i32_w]
    rfl
   refine pure_ (i:=8) (N:=some 45) (v:= ?_) (a':= ?_) #[true,true,true,true,true,true,true,true,true,false,false,false,false] rfl rfl (any_of HT_.out (by kernel_rfl)) (fun _ _ _ h=>h) (Or.inl ⟨by rfl,?_⟩) ?_ ?_
   rotate_left
   ·intro w'
    go_simp
    with_reducible rfl
   rotate_left
   ·simp only[Act.put,List.setIfInBounds_toArray,List.set_cons_zero,List.set_cons_succ,i64_w,i32_w]
    rfl
   refine pure_ (i:=9) (N:=some 46) (v:= ?_) (a':= ?_) #[true,true,true,true,true,true,true,true,true,true,false,false,false] rfl rfl (any_of HT_.out (by kernel_rfl)) (fun _ _ _ h=>h) (Or.inl ⟨by rfl,?_⟩) ?_ ?_
   rotate_left
   ·intro w'
    go_simp
    with_reducible rfl
   rotate_left
   ·simp only[Act.put,List.setIfInBounds_toArray,List.set_cons_zero,List.set_cons_succ,i64_w,i32_w]
    rfl
   refine one_ (i:=10) (N:=some 47) #[true,true,true,true,true,true,true,true,true,true,true,false,false] rfl rfl (one_of HT_.out (by kernel_rfl)) (by decide) (fun K hK=> ?_);refine value_ (w1:= ?_) (v:= ?_) (by rfl) rfl ?_ ?_
   rotate_left 2
   ·go_simp
    constructor
    ·rfl
    ·rfl
   refine hK.out _ _ ⟨(Yc (Yj Xz.out _) 0).trans rfl,(Yc (Yj Xz.out _) 1).trans rfl,(Yc (Yj Xz.out _) 2).trans rfl⟩ (fun hHeld=> ?_);clear hK K;refine norm_ (a':= ?_) ?_ ?_
   rotate_left
   ·show Act.put _ (some 47) _=_
    simp only[Act.put,List.setIfInBounds_toArray,List.set_cons_zero,List.set_cons_succ,i64_w,i32_w];rfl
   refine one_ (i:=11) (N:=some 48) #[true,true,true,true,true,true,true,true,true,true,true,true,false] rfl rfl (one_of HT_.out (by kernel_rfl)) (by decide) (fun K hK=> ?_);refine Kd.R_append_step k53 (w0:=w) w.heap.size (by rfl) (.tmp 37) (.tmp 47) 40 53 (.agg #[(.int .i64 0),(.int .i64 0)]) 16 rfl Try.underlying40 info53 rfl (by decide) (by omega) u9 Xn (⟨Int.tmod Wv Zb,wrap64 (Int.tdiv Wv Zb)⟩:S53) [.int .i64 (Int.tmod Wv Zb), .int .i64 (wrap64 (Int.tdiv Wv Zb))] (fun _=>True) (fun _=>False) rfl rfl ?aP (fun _ hk=>hk.elim) ?aF ?aO ?aB ?aS ?aL ?_
   (case aP=>exact k53_mkM _ _ _ (⟨Int.tmod Wv Zb,wrap64 (Int.tdiv Wv Zb)⟩:S53))
   (case aB=>exact(by repeat(first|(with_reducible first|exact HB.out|apply Ye|apply Yd|apply Yg|refine Yh ?_ GE551.out|refine Yh ?_ GE552.out)|exact HB.out)))
   (case aF=>exact(fun _ _=>trivial))
   (case aO=>exact(by(with_reducible repeat(first|apply Yr|apply Yq|apply Yp));exact HO_9.out))
   (case aS=>exact(Yi (by repeat(first|(with_reducible first|exact HB.out|apply Ye|apply Yd|apply Yg|refine Yh ?_ GE551.out|refine Yh ?_ GE552.out)|exact HB.out))))
   (case aL=>have:=LMc15.out;omega)
   intro v561 w22 ho hb hg hat
   rw[← Ny560.out] at ho;have n0_:=Ya (Kd.R_over' (by(with_reducible repeat(first|apply Yr|apply Yq|apply Yp));exact HO_10.out) (Kd.R_typed (by(with_reducible repeat(first|apply Yr|apply Yq|apply Yp));exact HO_9.out)) (by decide) hg);have n1_:=Ya (blk_grown (g:=gb551) (o:= .cells #[.int .i64 Zb, .bool Zc, .slice Ze Za.length Zd] 32 (0,0)) (by(with_reducible repeat(first|refine Yl ?_ _|refine Ym ?_|refine Yj ?_ _));exact Xz.out) hg (Kd.R_ne HO_9.out Xz.out (by decide)));have n2_:=Ya (blk_grown (g:=gb552) (o:= .cells #[.int .i64 Xf, .bool a2_1, .slice A2_2 l2_2.length c2_2] 32 (0,0)) (by(with_reducible repeat(first|refine Yl ?_ _|refine Ym ?_|refine Yj ?_ _));exact Va.out) hg (Kd.R_ne HO_9.out Va.out (by decide)));have n3_:=Ya (Kd.R_over' (by(with_reducible repeat(first|apply Yr|apply Yq|apply Yp));exact HO558.out) (Kd.R_typed (by(with_reducible repeat(first|apply Yr|apply Yq|apply Yp));exact HO_9.out)) (by decide) hg);have n4_:=Ya (hb);have n5_:=Ya (ho);clear HO_10;clear Xz;clear Va;clear HO558;clear HB;clear HO_9;have HO_10:=n0_;have Xz:=n1_;have Va:=n2_;have HO558:=n3_;have HB:=n4_;have HO562:=n5_;clear n0_ n1_ n2_ n3_ n4_ n5_;clear ho hb hg hat
   refine hK.out _ _ ⟨(Yc Xz.out 0).trans rfl,(Yc Xz.out 1).trans rfl,(Yc Xz.out 2).trans rfl⟩ (fun hHeld=> ?_);clear hK K;refine norm_ (a':= ?_) ?_ ?_
   rotate_left
   ·show Act.put _ (some 48) _=_
    simp only[Act.put,List.setIfInBounds_toArray,List.set_cons_zero,List.set_cons_succ,i64_w,i32_w];rfl
   refine pure_ (i:=12) (N:=some 9) (v:= ?_) (a':= ?_) #[true,true,true,true,true,true,true,true,true,true,true,true,true] rfl rfl (any_of HT_.out (by kernel_rfl)) (fun _ _ _ h=>h) (Or.inl ⟨by rfl,?_⟩) ?_ ?_
   rotate_left
   ·intro w'
    go_simp
    with_reducible rfl
   rotate_left
   ·simp only[Act.put,List.setIfInBounds_toArray,List.set_cons_zero,List.set_cons_succ,i64_w,i32_w]
    rfl
   refine done_ (done_of HT_.out (by kernel_rfl)) ?_;try go_wp2
   go_roundg k1
   case measure=>have:=HK1.out;omega
   case rel=>exact⟨(y560),(wrap64 (Wv+1)),(by first|rfl|(simp;done)|(simp[*];done)),H',⟨by have:=HK1.out;omega⟩,⟨by(with_reducible repeat(first|apply Yr|apply Yq|apply Yp));exact HO562.out⟩,⟨by(with_reducible repeat(first|apply Yr|apply Yq|apply Yp));exact Kd.R_mono HO_10.out (fun _ hk=>trivial)⟩,⟨by(with_reducible repeat(first|refine Yl ?_ _|refine Ym ?_|refine Yj ?_ _));exact Xz.out⟩,⟨by(with_reducible repeat(first|refine Yl ?_ _|refine Ym ?_|refine Yj ?_ _));exact Va.out⟩,⟨by repeat(first|(with_reducible first|exact HB.out|apply Ye|apply Yd|apply Yg|refine Yh ?_ GE551.out|refine Yh ?_ GE552.out)|exact HB.out)⟩⟩
end P
namespace P
attribute [local go_sem] max2_int min2_int max_two min_two max_three min_three max_four min_four
def ebbtideref16_Cut.f (k:Nat) (Zb:Int) (Zc:Bool) (Za:List (S73)) (a1:Int) (a2:Int) (a3:Int):Option ((List (S53)) × Int):=(ebbtideref15_Build.f k Zb Zc Za a1 a2 a3).bind fun bt564=>(if bt564.2.2.2=0 then((ebbtideref09_Best.f k bt564.1 bt564.2.1 bt564.2.2.1 (wrap64 (bt564.1 - 2)) (wrap64 (bt564.1 - 1))).bind fun t571=>((ebbtideref16_Slots.f k Zb Zc Za a3 bt564.1 bt564.2.1 bt564.2.2.1 t571).bind fun t574=>(some (t574,0)))) else(some (([]:List (S53)),bt564.2.2.2)))
set_option maxHeartbeats 8000000 in
set_option maxRecDepth 100000 in
theorem ebbtideref16_Cut.calls (k:Nat) (Zb:Int) (Zc:Bool) (Ze:Option Addr) (Zd:Nat) (Za:List (S73)) (a1:Int) (a2:Int) (a3:Int) (r1:List (S53)) (r2:Int) (w:World) (Zx:Kd.C k73 w Ze Za.length Za) (Zy:Za.length≤Zd) (h:ebbtideref16_Cut.f k Zb Zc Za a1 a2 a3=some (r1,r2)):
  Calls Try.prog 16 #[.agg #[.int .i64 Zb, .bool Zc, .slice Ze Za.length Zd], .int .i64 a1, .int .i64 a2, .int .i64 a3] w fun e w'=> ∃ v0_:Value,e= .returned (.tuple #[v0_, .int .i64 r2])∧Kd.R k53 53 w' w.heap.size (fun _=>True) v0_ r1∧Below w.heap.size w w':=by
 have hu32:=Try.underlying32;have Zo:=Ya Zx;have Zz:=Ya Zy;clear Zx Zy;have HB:=Ya (Yo w.heap.size w);have H:((ebbtideref15_Build.f k Zb Zc Za a1 a2 a3).bind fun bt564=>(if bt564.2.2.2=0 then((ebbtideref09_Best.f k bt564.1 bt564.2.1 bt564.2.2.1 (wrap64 (bt564.1 - 2)) (wrap64 (bt564.1 - 1))).bind fun t571=>((ebbtideref16_Slots.f k Zb Zc Za a3 bt564.1 bt564.2.1 bt564.2.2.1 t571).bind fun t574=>(some (t574,0)))) else(some (([]:List (S53)),bt564.2.2.2))))=some (r1,r2):=h;clear h;replace H:=Option.bind_eq_some_iff.mp H;obtain⟨⟨t564,t565,t566,t569⟩,A50,H⟩:=H;replace H:(if t569=0 then((ebbtideref09_Best.f k t564 t565 t566 (wrap64 (t564 - 2)) (wrap64 (t564 - 1))).bind fun t571=>((ebbtideref16_Slots.f k Zb Zc Za a3 t564 t565 t566 t571).bind fun t574=>(some (t574,0)))) else(some (([]:List (S53)),t569)))=some (r1,r2):=H;have A5:=Ya A50;clear A50;by_cases c6:t569=0
 rotate_left
 ·rw[Yy c6] at H
  have c6b0:(t569 == 0)=false:=beq_eq_false_iff_ne.mpr c6;have c6b1:(t569 != 0)=true:=bne_iff_ne.mpr c6;simp only[Option.some.injEq,Prod.mk.injEq] at H;obtain⟨rfl,rfl⟩:=H;go_enter Try.func16,Try.ntmps16;go_wp2_with (first|((with_reducible refine gate_dst (N:=4) rfl ?_);refine Yz ?hg (N:=4) ?hd (cs:= #[.int .i64 Zb, .bool Zc, .slice Ze Za.length Zd]) (t:=32) ?hr ?_;(case hd=>rfl);(case hg=>rfl);(case hr=>first|(go_simp;done)|(go_simp;rfl));intro Uv hg w21 Zf hb;have n0_:=Ya (Yk (by repeat(first|(with_reducible first|exact HB.out|apply Ye|apply Yd|apply Yg)|exact HB.out)) hb);have n1_:=Ya (Zf);have n2_:=Ya ((by rw[hg];exact(Yi (by repeat(first|(with_reducible first|exact HB.out|apply Ye|apply Yd|apply Yg)|exact HB.out))):w.heap.size≤Uv));have n3_:=Ya ((by rw[hg];exact(Yi (by repeat(first|(with_reducible first|exact HB.out|apply Ye|apply Yd|apply Yg)|exact HB.out))):w.heap.size≤Uv));clear HB;have HB:=n0_;have Ws:=n1_;have GW563:=n2_;have GE563:=n3_;clear n0_ n1_ n2_ n3_;clear hb Zf hg;have hcz22_0:w21.cell? ⟨Uv,0,none⟩=some (.int .i64 Zb):=(Yc Ws.out 0).trans rfl;have hcz22_1:w21.cell? ⟨Uv,1,none⟩=some (.bool Zc):=(Yc Ws.out 1).trans rfl;have hcz22_2:w21.cell? ⟨Uv,2,none⟩=some (.slice Ze Za.length Zd):=(Yc Ws.out 2).trans rfl;have hfz22_0:=Yf Ws.out 0;have hfz22_1:=Yf Ws.out 1;have hfz22_2:=Yf Ws.out 2)|((with_reducible refine gate_callee (f:=29) rfl ?_);refine goesL_ (some 18) rfl rfl Try.func29 (by kernel_rfl) rfl #[.agg #[.int .i64 Zb, .bool Zc, .slice Ze Za.length Zd], .int .i64 a1, .int .i64 a2, .int .i64 a3] rfl (by(try simp only[List.map_toArray,List.map_cons,List.map_nil]);first|done|rfl|(simp only[List.length_drop,List.length_take];rfl)) ?_;(with_reducible refine(ebbtideref15_Build.calls k Zb Zc _ _ Za a1 a2 a3 t564 t565 t566 t569 _ ?side1 ?side2 A5.out).mono ?_);(case side1=>repeat(first|exact(Yt Zo.out HB.out)|(with_reducible refine Kd.C_alloc ?_ _)|(with_reducible refine Kd.C_drewN ?_ _)|(with_reducible refine Kd.C_drew ?_)));(case side2=>exact Zz.out);rintro e w23 ⟨v567,rfl,ho0,hb⟩;refine⟨_,rfl,?_⟩;have n0_:=Ya (Kd.R_lower ho0 (Yi (by repeat(first|(with_reducible first|exact HB.out|apply Ye|apply Yd|apply Yg|refine Yh ?_ GE563.out)|exact HB.out))));have n1_:=Ya (Yn (g:=Uv) (o:= .cells #[.int .i64 Zb, .bool Zc, .slice Ze Za.length Zd] 32 (0,0)) (by(with_reducible repeat(first|refine Yl ?_ _|refine Ym ?_|refine Yj ?_ _));exact Ws.out) hb);have n2_:=Ya (Yk (by repeat(first|(with_reducible first|exact HB.out|apply Ye|apply Yd|apply Yg|refine Yh ?_ GE563.out)|exact HB.out)) hb);clear Ws;clear HB;have HO568:=n0_;have Ws:=n1_;have HB:=n2_;clear n0_ n1_ n2_;(try clear hb);(try clear hb2);(try clear hk);(try clear hi);(try clear ho0))|((with_reducible refine gate_dst (N:=10) rfl ?_);refine Yz ?hg (N:=10) ?hd (cs:= #[.int .i64 0, .bool false, .slice none 0 0]) (t:=32) ?hr ?_;(case hd=>rfl);(case hg=>rfl);(case hr=>first|(go_simp;done)|(go_simp;rfl));intro Jj hg w24 Zf hb;have n0_:=Ya (Ys (by(with_reducible repeat(first|apply Yr|apply Yq|apply Yp));exact HO568.out) hb);have n1_:=Ya (Yn (g:=Uv) (o:= .cells #[.int .i64 Zb, .bool Zc, .slice Ze Za.length Zd] 32 (0,0)) (by(with_reducible repeat(first|refine Yl ?_ _|refine Ym ?_|refine Yj ?_ _));exact Ws.out) hb);have n2_:=Ya (Yk (by repeat(first|(with_reducible first|exact HB.out|apply Ye|apply Yd|apply Yg|refine Yh ?_ GE563.out)|exact HB.out)) hb);have n3_:=Ya (Zf);have n4_:=Ya ((by rw[hg];exact(Yi (by repeat(first|(with_reducible first|exact HB.out|apply Ye|apply Yd|apply Yg|refine Yh ?_ GE563.out)|exact HB.out))):w.heap.size≤Jj));have n5_:=Ya ((by rw[hg];exact(Yi (by repeat(first|(with_reducible first|exact HB.out|apply Ye|apply Yd|apply Yg|refine Yh ?_ GE563.out)|exact HB.out))):w.heap.size≤Jj));have n6_:=Ya ((by rw[hg];exact Nat.ne_of_lt (blk_lt (g:=Uv) (o:= .cells #[.int .i64 Zb, .bool Zc, .slice Ze Za.length Zd] 32 (0,0)) (by(with_reducible repeat(first|refine Yl ?_ _|refine Ym ?_|refine Yj ?_ _));exact Ws.out)):Uv≠Jj));have n7_:=Ya ((by rw[hg];exact Nat.ne_of_gt (blk_lt (g:=Uv) (o:= .cells #[.int .i64 Zb, .bool Zc, .slice Ze Za.length Zd] 32 (0,0)) (by(with_reducible repeat(first|refine Yl ?_ _|refine Ym ?_|refine Yj ?_ _));exact Ws.out)):Jj≠Uv));clear HO568;clear Ws;clear HB;have HO568:=n0_;have Ws:=n1_;have HB:=n2_;have Je:=n3_;have GW570:=n4_;have GE570:=n5_;have NB563_570:=n6_;have NB570_563:=n7_;clear n0_ n1_ n2_ n3_ n4_ n5_ n6_ n7_;clear hb Zf hg;have hnb25:=NB570_563.out;have hnc25:=NB563_570.out;have hcz26_0:w24.cell? ⟨Jj,0,none⟩=some (.int .i64 0):=(Yc Je.out 0).trans rfl;have hcz26_1:w24.cell? ⟨Jj,1,none⟩=some (.bool false):=(Yc Je.out 1).trans rfl;have hcz26_2:w24.cell? ⟨Jj,2,none⟩=some (.slice none 0 0):=(Yc Je.out 2).trans rfl;have hfz26_0:=Yf Je.out 0;have hfz26_1:=Yf Je.out 1;have hfz26_2:=Yf Je.out 2;obtain⟨Ao27,co27,eo27⟩:=Kd.R_slice HO568.out;subst eo27));go_ret2;exact⟨_,by first|rfl|(simp[errW_none,errW_some]<;>rfl)|(simp[*,errW_none,errW_some]<;>rfl),by first|exact Kd.R_nil _ _ _ _ _|exact Kd.N_nil _ _ _ _ _|exact Kd.V_nil _ _ _ _ _|exact Kd.Q_nil _ _ _ _ _|exact Kd.S_nil _ _ _ _ _,by repeat(first|(with_reducible first|exact HB.out|apply Ye|apply Yd|apply Yg|refine Yh ?_ GE563.out|refine Yh ?_ GE570.out)|exact HB.out)⟩
 rw[Yx c6] at H;have c6b0:(t569 == 0)=true:=beq_iff_eq.mpr c6;have c6b1:(t569 != 0)=false:=bne_eq_false_iff_eq.mpr c6;clear c6;replace H:=Option.bind_eq_some_iff.mp H;obtain⟨t571,A70,H⟩:=H;replace H:((ebbtideref16_Slots.f k Zb Zc Za a3 t564 t565 t566 t571).bind fun t574=>(some (t574,0)))=some (r1,r2):=H;have A7:=Ya A70;clear A70;replace H:=Option.bind_eq_some_iff.mp H;obtain⟨t574,A80,H⟩:=H;replace H:(some (t574,0))=some (r1,r2):=H;have A8:=Ya A80;clear A80;simp only[Option.some.injEq,Prod.mk.injEq] at H;obtain⟨rfl,rfl⟩:=H;go_enter Try.func16,Try.ntmps16;go_wp2_with (first|((with_reducible refine gate_dst (N:=4) rfl ?_);refine Yz ?hg (N:=4) ?hd (cs:= #[.int .i64 Zb, .bool Zc, .slice Ze Za.length Zd]) (t:=32) ?hr ?_;(case hd=>rfl);(case hg=>rfl);(case hr=>first|(go_simp;done)|(go_simp;rfl));intro Uv hg w9 Zf hb;have n0_:=Ya (Yk (by repeat(first|(with_reducible first|exact HB.out|apply Ye|apply Yd|apply Yg)|exact HB.out)) hb);have n1_:=Ya (Zf);have n2_:=Ya ((by rw[hg];exact(Yi (by repeat(first|(with_reducible first|exact HB.out|apply Ye|apply Yd|apply Yg)|exact HB.out))):w.heap.size≤Uv));have n3_:=Ya ((by rw[hg];exact(Yi (by repeat(first|(with_reducible first|exact HB.out|apply Ye|apply Yd|apply Yg)|exact HB.out))):w.heap.size≤Uv));clear HB;have HB:=n0_;have Ws:=n1_;have GW563:=n2_;have GE563:=n3_;clear n0_ n1_ n2_ n3_;clear hb Zf hg;have Ui:w9.cell? ⟨Uv,0,none⟩=some (.int .i64 Zb):=(Yc Ws.out 0).trans rfl;have Uj:w9.cell? ⟨Uv,1,none⟩=some (.bool Zc):=(Yc Ws.out 1).trans rfl;have hcz10_2:w9.cell? ⟨Uv,2,none⟩=some (.slice Ze Za.length Zd):=(Yc Ws.out 2).trans rfl;have Uk:=Yf Ws.out 0;have Ul:=Yf Ws.out 1;have hfz10_2:=Yf Ws.out 2)|((with_reducible refine gate_callee (f:=29) rfl ?_);refine goesL_ (some 18) rfl rfl Try.func29 (by kernel_rfl) rfl #[.agg #[.int .i64 Zb, .bool Zc, .slice Ze Za.length Zd], .int .i64 a1, .int .i64 a2, .int .i64 a3] rfl (by(try simp only[List.map_toArray,List.map_cons,List.map_nil]);first|done|rfl|(simp only[List.length_drop,List.length_take];rfl)) ?_;(with_reducible refine(ebbtideref15_Build.calls k Zb Zc _ _ Za a1 a2 a3 t564 t565 t566 t569 _ ?side1 ?side2 A5.out).mono ?_);(case side1=>repeat(first|exact(Yt Zo.out HB.out)|(with_reducible refine Kd.C_alloc ?_ _)|(with_reducible refine Kd.C_drewN ?_ _)|(with_reducible refine Kd.C_drew ?_)));(case side2=>exact Zz.out);rintro e w11 ⟨v567,rfl,ho0,hb⟩;refine⟨_,rfl,?_⟩;have n0_:=Ya (Kd.R_lower ho0 (Yi (by repeat(first|(with_reducible first|exact HB.out|apply Ye|apply Yd|apply Yg|refine Yh ?_ GE563.out)|exact HB.out))));have n1_:=Ya (Yn (g:=Uv) (o:= .cells #[.int .i64 Zb, .bool Zc, .slice Ze Za.length Zd] 32 (0,0)) (by(with_reducible repeat(first|refine Yl ?_ _|refine Ym ?_|refine Yj ?_ _));exact Ws.out) hb);have n2_:=Ya (Yk (by repeat(first|(with_reducible first|exact HB.out|apply Ye|apply Yd|apply Yg|refine Yh ?_ GE563.out)|exact HB.out)) hb);clear Ws;clear HB;have HO568:=n0_;have Ws:=n1_;have HB:=n2_;clear n0_ n1_ n2_;(try clear hb);(try clear hb2);(try clear hk);(try clear hi);(try clear ho0))|((with_reducible refine gate_dst (N:=10) rfl ?_);refine Yz ?hg (N:=10) ?hd (cs:= #[.int .i64 0, .bool false, .slice none 0 0]) (t:=32) ?hr ?_;(case hd=>rfl);(case hg=>rfl);(case hr=>first|(go_simp;done)|(go_simp;rfl));intro Jj hg w12 Zf hb;have n0_:=Ya (Ys (by(with_reducible repeat(first|apply Yr|apply Yq|apply Yp));exact HO568.out) hb);have n1_:=Ya (Yn (g:=Uv) (o:= .cells #[.int .i64 Zb, .bool Zc, .slice Ze Za.length Zd] 32 (0,0)) (by(with_reducible repeat(first|refine Yl ?_ _|refine Ym ?_|refine Yj ?_ _));exact Ws.out) hb);have n2_:=Ya (Yk (by repeat(first|(with_reducible first|exact HB.out|apply Ye|apply Yd|apply Yg|refine Yh ?_ GE563.out)|exact HB.out)) hb);have n3_:=Ya (Zf);have n4_:=Ya ((by rw[hg];exact(Yi (by repeat(first|(with_reducible first|exact HB.out|apply Ye|apply Yd|apply Yg|refine Yh ?_ GE563.out)|exact HB.out))):w.heap.size≤Jj));have n5_:=Ya ((by rw[hg];exact(Yi (by repeat(first|(with_reducible first|exact HB.out|apply Ye|apply Yd|apply Yg|refine Yh ?_ GE563.out)|exact HB.out))):w.heap.size≤Jj));have n6_:=Ya ((by rw[hg];exact Nat.ne_of_lt (blk_lt (g:=Uv) (o:= .cells #[.int .i64 Zb, .bool Zc, .slice Ze Za.length Zd] 32 (0,0)) (by(with_reducible repeat(first|refine Yl ?_ _|refine Ym ?_|refine Yj ?_ _));exact Ws.out)):Uv≠Jj));have n7_:=Ya ((by rw[hg];exact Nat.ne_of_gt (blk_lt (g:=Uv) (o:= .cells #[.int .i64 Zb, .bool Zc, .slice Ze Za.length Zd] 32 (0,0)) (by(with_reducible repeat(first|refine Yl ?_ _|refine Ym ?_|refine Yj ?_ _));exact Ws.out)):Jj≠Uv));clear HO568;clear Ws;clear HB;have HO568:=n0_;have Ws:=n1_;have HB:=n2_;have Je:=n3_;have GW570:=n4_;have GE570:=n5_;have NB563_570:=n6_;have NB570_563:=n7_;clear n0_ n1_ n2_ n3_ n4_ n5_ n6_ n7_;clear hb Zf hg;have hnb13:=NB570_563.out;have hnc13:=NB563_570.out;have hcz14_0:w12.cell? ⟨Jj,0,none⟩=some (.int .i64 0):=(Yc Je.out 0).trans rfl;have hcz14_1:w12.cell? ⟨Jj,1,none⟩=some (.bool false):=(Yc Je.out 1).trans rfl;have hcz14_2:w12.cell? ⟨Jj,2,none⟩=some (.slice none 0 0):=(Yc Je.out 2).trans rfl;have hfz14_0:=Yf Je.out 0;have hfz14_1:=Yf Je.out 1;have hfz14_2:=Yf Je.out 2;obtain⟨Ao15,co15,eo15⟩:=Kd.R_slice HO568.out;subst eo15)|((with_reducible refine gate_callee (f:=30) rfl ?_);refine goesL_ (some 31) rfl rfl Try.func30 (by kernel_rfl) rfl #[.agg #[.int .i64 t564, .bool t565, .slice Ao15 t566.length co15], .int .i64 (wrap64 (t564 - 2)), .int .i64 (wrap64 (t564 - 1))] rfl (by(try simp only[List.map_toArray,List.map_cons,List.map_nil]);first|done|rfl|(simp only[List.length_drop,List.length_take];rfl)) ?_;(with_reducible refine(ebbtideref09_Best.calls k t564 t565 _ _ t566 (wrap64 (t564 - 2)) (wrap64 (t564 - 1)) t571 _ ?side1 ?side2 A7.out).mono ?_);(case side1=>refine(Kd.R_reads' (e:=73) (base:=w.heap.size) (ok:=fun k_=>True) (n:=t566.length) (c:=co15) ?_).2.2;exact(by(with_reducible repeat(first|apply Yr|apply Yq|apply Yp));exact(Kd.R_mono (Kd.R_far (p:=⟨Jj,2,none⟩) (Kd.R_far (p:=⟨Jj,1,none⟩) (Kd.R_far (p:=⟨Jj,0,none⟩) (Kd.R_types HO568.out Je.out (by decide)) (fun _ hk=>hk.2) (.int .i64 t564)) (fun _ hk=>hk.2) (.bool t565)) (fun _ hk=>hk.2) (.slice Ao15 t566.length co15)) (fun _ h_=>h_.1))));(case side2=>exact(Kd.R_reads' HO568.out).2.1);rintro e w16 ⟨v572,rfl,ho0,hb⟩;refine⟨_,rfl,?_⟩;have n0_:=Ya (Ys (by(with_reducible repeat(first|apply Yr|apply Yq|apply Yp));exact(Kd.R_mono (Kd.R_far (p:=⟨Jj,2,none⟩) (Kd.R_far (p:=⟨Jj,1,none⟩) (Kd.R_far (p:=⟨Jj,0,none⟩) (Kd.R_types HO568.out Je.out (by decide)) (fun _ hk=>hk.2) (.int .i64 t564)) (fun _ hk=>hk.2) (.bool t565)) (fun _ hk=>hk.2) (.slice Ao15 t566.length co15)) (fun _ h_=>h_.1))) hb);have n1_:=Ya (Kd.R_lower ho0 (Yi (by repeat(first|(with_reducible first|exact HB.out|apply Ye|apply Yd|apply Yg|refine Yh ?_ GE563.out|refine Yh ?_ GE570.out)|exact HB.out))));have n2_:=Ya (Yn (g:=Uv) (o:= .cells #[.int .i64 Zb, .bool Zc, .slice Ze Za.length Zd] 32 (0,0)) (by(with_reducible repeat(first|refine Yl ?_ _|refine Ym ?_|refine Yj ?_ _));refine blk_far ?_ NB563_570.out _;(with_reducible repeat(first|refine Yl ?_ _|refine Ym ?_|refine Yj ?_ _));refine blk_far ?_ NB563_570.out _;(with_reducible repeat(first|refine Yl ?_ _|refine Ym ?_|refine Yj ?_ _));refine blk_far ?_ NB563_570.out _;(with_reducible repeat(first|refine Yl ?_ _|refine Ym ?_|refine Yj ?_ _));exact Ws.out) hb);have n3_:=Ya (Yn (g:=Jj) (o:= .cells #[.int .i64 t564, .bool t565, .slice Ao15 t566.length co15] 32 (0,0)) (by(with_reducible repeat(first|refine Yl ?_ _|refine Ym ?_|refine Yj ?_ _));refine YA (cs:= #[.int .i64 t564, .bool t565, .slice none 0 0]) ?_ 2 _ rfl;(with_reducible repeat(first|refine Yl ?_ _|refine Ym ?_|refine Yj ?_ _));refine YA (cs:= #[.int .i64 t564, .bool false, .slice none 0 0]) ?_ 1 _ rfl;(with_reducible repeat(first|refine Yl ?_ _|refine Ym ?_|refine Yj ?_ _));refine YA (cs:= #[.int .i64 0, .bool false, .slice none 0 0]) ?_ 0 _ rfl;(with_reducible repeat(first|refine Yl ?_ _|refine Ym ?_|refine Yj ?_ _));exact Je.out) hb);have n4_:=Ya (Yk (by repeat(first|(with_reducible first|exact HB.out|apply Ye|apply Yd|apply Yg|refine Yh ?_ GE563.out|refine Yh ?_ GE570.out)|exact HB.out)) hb);clear HO568;clear Ws;clear Je;clear HB;have HO568:=n0_;have HO573:=n1_;have Ws:=n2_;have Je:=n3_;have HB:=n4_;clear n0_ n1_ n2_ n3_ n4_;(try clear hb);(try clear hb2);(try clear hk);(try clear hi);(try clear ho0);have Vj:w16.cell? ⟨Uv,0,none⟩=some (.int .i64 Zb):=(Yc Ws.out 0).trans rfl;have Vk:w16.cell? ⟨Uv,1,none⟩=some (.bool Zc):=(Yc Ws.out 1).trans rfl;have hcz17_2:w16.cell? ⟨Uv,2,none⟩=some (.slice Ze Za.length Zd):=(Yc Ws.out 2).trans rfl;have Vl:=Yf Ws.out 0;have Vm:=Yf Ws.out 1;have hfz17_2:=Yf Ws.out 2;have hcz18_0:w16.cell? ⟨Jj,0,none⟩=some (.int .i64 t564):=(Yc Je.out 0).trans rfl;have hcz18_1:w16.cell? ⟨Jj,1,none⟩=some (.bool t565):=(Yc Je.out 1).trans rfl;have hcz18_2:w16.cell? ⟨Jj,2,none⟩=some (.slice Ao15 t566.length co15):=(Yc Je.out 2).trans rfl;have hfz18_0:=Yf Je.out 0;have hfz18_1:=Yf Je.out 1;have hfz18_2:=Yf Je.out 2;obtain⟨Ao19,co19,eo19⟩:=Kd.R_slice HO573.out;subst eo19)|((with_reducible refine gate_callee (f:=32) rfl ?_);refine goesL_ (some 36) rfl rfl Try.func32 (by kernel_rfl) rfl #[.agg #[.int .i64 Zb, .bool Zc, .slice Ze Za.length Zd], .int .i64 a3, .agg #[.int .i64 t564, .bool t565, .slice Ao15 t566.length co15], .slice Ao19 t571.length co19] rfl (by(try simp only[List.map_toArray,List.map_cons,List.map_nil]);first|done|rfl|(simp only[List.length_drop,List.length_take];rfl)) ?_;(with_reducible refine(ebbtideref16_Slots.calls k Zb Zc _ _ Za a3 t564 t565 _ _ t566 _ _ t571 t574 _ ?side1 ?side2 ?side3 ?side4 ?side5 ?side6 A8.out).mono ?_);(case side1=>repeat(first|exact(Yt Zo.out HB.out)|(with_reducible refine Kd.C_alloc ?_ _)|(with_reducible refine Kd.C_drewN ?_ _)|(with_reducible refine Kd.C_drew ?_)));(case side2=>exact Zz.out);(case side3=>repeat(first|exact(Kd.R_reads' HO568.out).2.2|(with_reducible refine Kd.C_alloc ?_ _)|(with_reducible refine Kd.C_drewN ?_ _)|(with_reducible refine Kd.C_drew ?_)));(case side4=>exact(Kd.R_reads' HO568.out).2.1);(case side5=>repeat(first|exact(Kd.R_reads' HO573.out).2.2|(with_reducible refine Kd.C_alloc ?_ _)|(with_reducible refine Kd.C_drewN ?_ _)|(with_reducible refine Kd.C_drew ?_)));(case side6=>exact(Kd.R_reads' HO573.out).2.1);rintro e w20 ⟨v575,rfl,ho0,hb⟩;refine⟨_,rfl,?_⟩;have n0_:=Ya (Ys (by(with_reducible repeat(first|apply Yr|apply Yq|apply Yp));exact HO568.out) hb);have n1_:=Ya (Ys (by(with_reducible repeat(first|apply Yr|apply Yq|apply Yp));exact HO573.out) hb);have n2_:=Ya (Kd.R_lower ho0 (Yi (by repeat(first|(with_reducible first|exact HB.out|apply Ye|apply Yd|apply Yg|refine Yh ?_ GE563.out|refine Yh ?_ GE570.out)|exact HB.out))));have n3_:=Ya (Yn (g:=Uv) (o:= .cells #[.int .i64 Zb, .bool Zc, .slice Ze Za.length Zd] 32 (0,0)) (by(with_reducible repeat(first|refine Yl ?_ _|refine Ym ?_|refine Yj ?_ _));exact Ws.out) hb);have n4_:=Ya (Yn (g:=Jj) (o:= .cells #[.int .i64 t564, .bool t565, .slice Ao15 t566.length co15] 32 (0,0)) (by(with_reducible repeat(first|refine Yl ?_ _|refine Ym ?_|refine Yj ?_ _));exact Je.out) hb);have n5_:=Ya (Yk (by repeat(first|(with_reducible first|exact HB.out|apply Ye|apply Yd|apply Yg|refine Yh ?_ GE563.out|refine Yh ?_ GE570.out)|exact HB.out)) hb);clear HO568;clear HO573;clear Ws;clear Je;clear HB;have HO568:=n0_;have HO573:=n1_;have HO576:=n2_;have Ws:=n3_;have Je:=n4_;have HB:=n5_;clear n0_ n1_ n2_ n3_ n4_ n5_;(try clear hb);(try clear hb2);(try clear hk);(try clear hi);(try clear ho0)));go_ret2;exact⟨_,by first|rfl|(simp[errW_none,errW_some]<;>rfl)|(simp[*,errW_none,errW_some]<;>rfl),by(with_reducible repeat(first|apply Yr|apply Yq|apply Yp));exact HO576.out,by repeat(first|(with_reducible first|exact HB.out|apply Ye|apply Yd|apply Yg|refine Yh ?_ GE563.out|refine Yh ?_ GE570.out)|exact HB.out)⟩
end P
namespace P
attribute [local go_sem] max2_int min2_int max_two min_two max_three min_three max_four min_four
def ebbtidelaw18_TimecutLeast.f (k:Nat) (Zb:Int) (Zc:Bool) (Za:List (S77)) (Vo:Int) (Vp:Int) (Vq:Int) (l1:List Int):Option (Bool):=(ebbtidelaw18_awake.f k).bind fun t578=>(if t578=true then((ebbtidelaw12_Read.f k Zb Zc Za Vo Vp Vq 6).bind fun bt579=>((ebbtideref16_Most.f k bt579.1 bt579.2.1 bt579.2.2.1 bt579.2.2.2.1 bt579.2.2.2.2.1 bt579.2.2.2.2.2).bind fun bt588=>((ebbtideref16_Cut.f k bt579.1 bt579.2.1 bt579.2.2.1 bt579.2.2.2.1 bt579.2.2.2.2.1 bt579.2.2.2.2.2).bind fun bt590=>((timecut_Check.f bt579.1 bt579.2.1 bt579.2.2.1 bt579.2.2.2.1 bt579.2.2.2.2.1 bt579.2.2.2.2.2 bt590.1).bind fun bt594=>((ebbtidelaw18_Made.f k bt579.1 bt579.2.1 bt579.2.2.1 bt579.2.2.2.1 bt579.2.2.2.2.1 bt579.2.2.2.2.2 l1).bind fun t596=>((timecut_Check.f bt579.1 bt579.2.1 bt579.2.2.1 bt579.2.2.2.1 bt579.2.2.2.2.1 bt579.2.2.2.2.2 t596).bind fun bt599=>(if bt588.2=0 then(if bt590.2=0 then(if bt594.2=0 then(if bt599.2=0 then(if bt594.1=bt588.1 then(some (decide (bt599.1≥bt588.1))) else(some false)) else(some false)) else(some false)) else(some false)) else(some false)))))))) else(some false))
def ebbtidelaw18_TimecutLeast.T8:Bool × List (List Nat × List Nat):=(true,[([],[]),([],[]),([],[]),([],[]),([],[]),([],[]),([],[]),([],[]),([],[]),([4,5,6,7,8],[4,5,6,7,8]),([0,1,2,3,9,9],[0,1,2,3,9]),([10],[10]),([11],[11]),([11],[11]),([12,10,0,1,2,3,4,5,6,7,8,9,10,11,12],[12]),([13,14,0,1,2,3,4,5,6,7,8,9,10,11,12,13,14],[13])])
def ebbtidelaw18_TimecutLeast.B8:List Nat:=[0,0,0,0,0,0,0,0,0,496,1023,2047,4095,4095,8191,32767]
theorem ebbtidelaw18_TimecutLeast.tab8:rtab .any (opsOf Try.f6 8)=ebbtidelaw18_TimecutLeast.T8:=by kernel_rfl
theorem ebbtidelaw18_TimecutLeast.bits8:waitsOk ebbtidelaw18_TimecutLeast.T8.2 ebbtidelaw18_TimecutLeast.B8=true:=by kernel_rfl
set_option maxHeartbeats 8000000 in
set_option maxRecDepth 100000 in
theorem ebbtidelaw18_TimecutLeast.calls (k:Nat) (Zb:Int) (Zc:Bool) (Ze:Option Addr) (Zd:Nat) (Za:List (S77)) (Vo:Int) (Vp:Int) (Vq:Int) (A1:Option Addr) (c1:Nat) (l1:List Int) (r:Bool) (w:World) (Zx:Kd.C k77 w Ze Za.length Za) (Zy:Za.length≤Zd) (hr1:Kd.C (Kd.int .u16) w A1 l1.length l1) (hc1:l1.length≤c1) (h:ebbtidelaw18_TimecutLeast.f k Zb Zc Za Vo Vp Vq l1=some r) (hrT_:r=true:=by first|rfl|exact Aside0.out (by assumption)):
  Calls Try.prog 6 #[.agg #[.int .u8 Zb, .bool Zc, .slice Ze Za.length Zd, .int .u8 Vo, .int .u8 Vp, .int .u8 Vq], .slice A1 l1.length c1] w fun e w'=>e= .returned (.bool r)∧Below w.heap.size w w':=by
 have HRT:=Ya hrT_;clear hrT_;have hu24:=Try.underlying24;have hu32:=Try.underlying32;have Zo:=Ya Zx;have Zz:=Ya Zy;clear Zx Zy;have HR1:=Ya hr1;have HC1:=Ya hc1;clear hr1 hc1;have HB:=Ya (Yo w.heap.size w);have H:((ebbtidelaw18_awake.f k).bind fun t578=>(if t578=true then((ebbtidelaw12_Read.f k Zb Zc Za Vo Vp Vq 6).bind fun bt579=>((ebbtideref16_Most.f k bt579.1 bt579.2.1 bt579.2.2.1 bt579.2.2.2.1 bt579.2.2.2.2.1 bt579.2.2.2.2.2).bind fun bt588=>((ebbtideref16_Cut.f k bt579.1 bt579.2.1 bt579.2.2.1 bt579.2.2.2.1 bt579.2.2.2.2.1 bt579.2.2.2.2.2).bind fun bt590=>((timecut_Check.f bt579.1 bt579.2.1 bt579.2.2.1 bt579.2.2.2.1 bt579.2.2.2.2.1 bt579.2.2.2.2.2 bt590.1).bind fun bt594=>((ebbtidelaw18_Made.f k bt579.1 bt579.2.1 bt579.2.2.1 bt579.2.2.2.1 bt579.2.2.2.2.1 bt579.2.2.2.2.2 l1).bind fun t596=>((timecut_Check.f bt579.1 bt579.2.1 bt579.2.2.1 bt579.2.2.2.1 bt579.2.2.2.2.1 bt579.2.2.2.2.2 t596).bind fun bt599=>(if bt588.2=0 then(if bt590.2=0 then(if bt594.2=0 then(if bt599.2=0 then(if bt594.1=bt588.1 then(some (decide (bt599.1≥bt588.1))) else(some false)) else(some false)) else(some false)) else(some false)) else(some false)))))))) else(some false)))=some r:=h;clear h;replace H:=Option.bind_eq_some_iff.mp H;obtain⟨t578,A30,H⟩:=H;replace H:(if t578=true then((ebbtidelaw12_Read.f k Zb Zc Za Vo Vp Vq 6).bind fun bt579=>((ebbtideref16_Most.f k bt579.1 bt579.2.1 bt579.2.2.1 bt579.2.2.2.1 bt579.2.2.2.2.1 bt579.2.2.2.2.2).bind fun bt588=>((ebbtideref16_Cut.f k bt579.1 bt579.2.1 bt579.2.2.1 bt579.2.2.2.1 bt579.2.2.2.2.1 bt579.2.2.2.2.2).bind fun bt590=>((timecut_Check.f bt579.1 bt579.2.1 bt579.2.2.1 bt579.2.2.2.1 bt579.2.2.2.2.1 bt579.2.2.2.2.2 bt590.1).bind fun bt594=>((ebbtidelaw18_Made.f k bt579.1 bt579.2.1 bt579.2.2.1 bt579.2.2.2.1 bt579.2.2.2.2.1 bt579.2.2.2.2.2 l1).bind fun t596=>((timecut_Check.f bt579.1 bt579.2.1 bt579.2.2.1 bt579.2.2.2.1 bt579.2.2.2.2.1 bt579.2.2.2.2.2 t596).bind fun bt599=>(if bt588.2=0 then(if bt590.2=0 then(if bt594.2=0 then(if bt599.2=0 then(if bt594.1=bt588.1 then(some (decide (bt599.1≥bt588.1))) else(some false)) else(some false)) else(some false)) else(some false)) else(some false)))))))) else(some false))=some r:=H;have A3:=Ya A30;clear A30;by_cases c4:t578=true
 rotate_left
 ·replace c4:=Bool.eq_false_iff.mpr c4
  subst c4;have H1:(some false)=some r:=by rw[Yy (show ¬ (false=true) by decide)] at H;exact H
  exact absurd (Option.some.inj H1) (by rw[HRT.out];decide)
 subst c4;have H1:((ebbtidelaw12_Read.f k Zb Zc Za Vo Vp Vq 6).bind fun bt579=>((ebbtideref16_Most.f k bt579.1 bt579.2.1 bt579.2.2.1 bt579.2.2.2.1 bt579.2.2.2.2.1 bt579.2.2.2.2.2).bind fun bt588=>((ebbtideref16_Cut.f k bt579.1 bt579.2.1 bt579.2.2.1 bt579.2.2.2.1 bt579.2.2.2.2.1 bt579.2.2.2.2.2).bind fun bt590=>((timecut_Check.f bt579.1 bt579.2.1 bt579.2.2.1 bt579.2.2.2.1 bt579.2.2.2.2.1 bt579.2.2.2.2.2 bt590.1).bind fun bt594=>((ebbtidelaw18_Made.f k bt579.1 bt579.2.1 bt579.2.2.1 bt579.2.2.2.1 bt579.2.2.2.2.1 bt579.2.2.2.2.2 l1).bind fun t596=>((timecut_Check.f bt579.1 bt579.2.1 bt579.2.2.1 bt579.2.2.2.1 bt579.2.2.2.2.1 bt579.2.2.2.2.2 t596).bind fun bt599=>(if bt588.2=0 then(if bt590.2=0 then(if bt594.2=0 then(if bt599.2=0 then(if bt594.1=bt588.1 then(some (decide (bt599.1≥bt588.1))) else(some false)) else(some false)) else(some false)) else(some false)) else(some false))))))))=some r:=by first|(rw[Yx rfl] at H;exact H)|(rw[Yx trivial] at H;exact H)
 clear H;have H:=H1;clear H1;replace H:=Option.bind_eq_some_iff.mp H;obtain⟨⟨t579,t580,t581,t584,t585,t586⟩,A50,H⟩:=H;replace H:((ebbtideref16_Most.f k t579 t580 t581 t584 t585 t586).bind fun bt588=>((ebbtideref16_Cut.f k t579 t580 t581 t584 t585 t586).bind fun bt590=>((timecut_Check.f t579 t580 t581 t584 t585 t586 bt590.1).bind fun bt594=>((ebbtidelaw18_Made.f k t579 t580 t581 t584 t585 t586 l1).bind fun t596=>((timecut_Check.f t579 t580 t581 t584 t585 t586 t596).bind fun bt599=>(if bt588.2=0 then(if bt590.2=0 then(if bt594.2=0 then(if bt599.2=0 then(if bt594.1=bt588.1 then(some (decide (bt599.1≥bt588.1))) else(some false)) else(some false)) else(some false)) else(some false)) else(some false)))))))=some r:=H;have A5:=Ya A50;clear A50;replace H:=Option.bind_eq_some_iff.mp H;obtain⟨⟨t588,t589⟩,A60,H⟩:=H;replace H:((ebbtideref16_Cut.f k t579 t580 t581 t584 t585 t586).bind fun bt590=>((timecut_Check.f t579 t580 t581 t584 t585 t586 bt590.1).bind fun bt594=>((ebbtidelaw18_Made.f k t579 t580 t581 t584 t585 t586 l1).bind fun t596=>((timecut_Check.f t579 t580 t581 t584 t585 t586 t596).bind fun bt599=>(if t589=0 then(if bt590.2=0 then(if bt594.2=0 then(if bt599.2=0 then(if bt594.1=t588 then(some (decide (bt599.1≥t588))) else(some false)) else(some false)) else(some false)) else(some false)) else(some false))))))=some r:=H;have A6:=Ya A60;clear A60;replace H:=Option.bind_eq_some_iff.mp H;obtain⟨⟨t590,t593⟩,A70,H⟩:=H;replace H:((timecut_Check.f t579 t580 t581 t584 t585 t586 t590).bind fun bt594=>((ebbtidelaw18_Made.f k t579 t580 t581 t584 t585 t586 l1).bind fun t596=>((timecut_Check.f t579 t580 t581 t584 t585 t586 t596).bind fun bt599=>(if t589=0 then(if t593=0 then(if bt594.2=0 then(if bt599.2=0 then(if bt594.1=t588 then(some (decide (bt599.1≥t588))) else(some false)) else(some false)) else(some false)) else(some false)) else(some false)))))=some r:=H;have A7:=Ya A70;clear A70;replace H:=Option.bind_eq_some_iff.mp H;obtain⟨⟨t594,t595⟩,A80,H⟩:=H;replace H:((ebbtidelaw18_Made.f k t579 t580 t581 t584 t585 t586 l1).bind fun t596=>((timecut_Check.f t579 t580 t581 t584 t585 t586 t596).bind fun bt599=>(if t589=0 then(if t593=0 then(if t595=0 then(if bt599.2=0 then(if t594=t588 then(some (decide (bt599.1≥t588))) else(some false)) else(some false)) else(some false)) else(some false)) else(some false))))=some r:=H;have A8:=Ya A80;clear A80;replace H:=Option.bind_eq_some_iff.mp H;obtain⟨t596,A90,H⟩:=H;replace H:((timecut_Check.f t579 t580 t581 t584 t585 t586 t596).bind fun bt599=>(if t589=0 then(if t593=0 then(if t595=0 then(if bt599.2=0 then(if t594=t588 then(some (decide (bt599.1≥t588))) else(some false)) else(some false)) else(some false)) else(some false)) else(some false)))=some r:=H;have A9:=Ya A90;clear A90;replace H:=Option.bind_eq_some_iff.mp H;obtain⟨⟨t599,t600⟩,A100,H⟩:=H;replace H:(if t589=0 then(if t593=0 then(if t595=0 then(if t600=0 then(if t594=t588 then(some (decide (t599≥t588))) else(some false)) else(some false)) else(some false)) else(some false)) else(some false))=some r:=H;have A10:=Ya A100;clear A100;by_cases c11:t589=0
 rotate_left
 ·rw[Yy c11] at H
  exact absurd (Option.some.inj H) (by rw[HRT.out];decide)
 rw[Yx c11] at H;have c11b0:(t589 == 0)=true:=beq_iff_eq.mpr c11;have c11b1:(t589 != 0)=false:=bne_eq_false_iff_eq.mpr c11;clear c11;by_cases c12:t593=0
 rotate_left
 ·rw[Yy c12] at H
  exact absurd (Option.some.inj H) (by rw[HRT.out];decide)
 rw[Yx c12] at H;have c12b0:(t593 == 0)=true:=beq_iff_eq.mpr c12;have c12b1:(t593 != 0)=false:=bne_eq_false_iff_eq.mpr c12;clear c12;by_cases c13:t595=0
 rotate_left
 ·rw[Yy c13] at H
  exact absurd (Option.some.inj H) (by rw[HRT.out];decide)
 rw[Yx c13] at H;have c13b0:(t595 == 0)=true:=beq_iff_eq.mpr c13;have c13b1:(t595 != 0)=false:=bne_eq_false_iff_eq.mpr c13;clear c13;by_cases c14:t600=0
 rotate_left
 ·rw[Yy c14] at H
  exact absurd (Option.some.inj H) (by rw[HRT.out];decide)
 rw[Yx c14] at H;have c14b0:(t600 == 0)=true:=beq_iff_eq.mpr c14;have c14b1:(t600 != 0)=false:=bne_eq_false_iff_eq.mpr c14;clear c14;by_cases c15:t594=t588
 rotate_left
 ·rw[Yy c15] at H
  exact absurd (Option.some.inj H) (by rw[HRT.out];decide)
 rw[Yx c15] at H;have c15b0:(t594 == t588)=true:=beq_iff_eq.mpr c15;have c15b1:(t594 != t588)=false:=bne_eq_false_iff_eq.mpr c15;clear c15;obtain rfl:=Option.some.inj H;go_enter Try.func6,Try.ntmps6;try go_wp2_with (first|((with_reducible refine gate_dst (N:=2) rfl ?_);refine Yz ?hg (N:=2) ?hd (cs:= #[.int .u8 Zb, .bool Zc, .slice Ze Za.length Zd, .int .u8 Vo, .int .u8 Vp, .int .u8 Vq]) (t:=24) ?hr ?_;(case hd=>rfl);(case hg=>rfl);(case hr=>first|(go_simp;done)|(go_simp;rfl));intro gb577 hg w16 Zf hb;have n0_:=Ya (Yk (by repeat(first|(with_reducible first|exact HB.out|apply Ye|apply Yd|apply Yg)|exact HB.out)) hb);have n1_:=Ya (Zf);have n2_:=Ya ((by rw[hg];exact(Yi (by repeat(first|(with_reducible first|exact HB.out|apply Ye|apply Yd|apply Yg)|exact HB.out))):w.heap.size≤gb577));have n3_:=Ya ((by rw[hg];exact(Yi (by repeat(first|(with_reducible first|exact HB.out|apply Ye|apply Yd|apply Yg)|exact HB.out))):w.heap.size≤gb577));clear HB;have HB:=n0_;have Wq:=n1_;have GW577:=n2_;have GE577:=n3_;clear n0_ n1_ n2_ n3_;clear hb Zf hg)|((with_reducible refine gate_callee (f:=7) rfl ?_);refine goesL_ (some 18) rfl rfl Try.func7 (by kernel_rfl) rfl #[] rfl (by(try simp only[List.map_toArray,List.map_cons,List.map_nil]);first|done|rfl|(simp only[List.length_drop,List.length_take];rfl)) ?_;(with_reducible refine(ebbtidelaw18_awake.calls k  true _ A3.out).mono ?_);rintro e w17 ⟨rfl,hb⟩;refine⟨_,rfl,?_⟩;have n0_:=Ya (Yn (g:=gb577) (o:= .cells #[.int .u8 Zb, .bool Zc, .slice Ze Za.length Zd, .int .u8 Vo, .int .u8 Vp, .int .u8 Vq] 24 (0,0)) (by(with_reducible repeat(first|refine Yl ?_ _|refine Ym ?_|refine Yj ?_ _));exact Wq.out) hb);have n1_:=Ya (Yk (by repeat(first|(with_reducible first|exact HB.out|apply Ye|apply Yd|apply Yg|refine Yh ?_ GE577.out)|exact HB.out)) hb);clear Wq;clear HB;have Wq:=n0_;have HB:=n1_;clear n0_ n1_;(try clear hb);(try clear hb2);(try clear hk);(try clear hi);have hcz18_0:w17.cell? ⟨gb577,0,none⟩=some (.int .u8 Zb):=(Yc Wq.out 0).trans rfl;have hcz18_1:w17.cell? ⟨gb577,1,none⟩=some (.bool Zc):=(Yc Wq.out 1).trans rfl;have hcz18_2:w17.cell? ⟨gb577,2,none⟩=some (.slice Ze Za.length Zd):=(Yc Wq.out 2).trans rfl;have hcz18_3:w17.cell? ⟨gb577,3,none⟩=some (.int .u8 Vo):=(Yc Wq.out 3).trans rfl;have hcz18_4:w17.cell? ⟨gb577,4,none⟩=some (.int .u8 Vp):=(Yc Wq.out 4).trans rfl;have hcz18_5:w17.cell? ⟨gb577,5,none⟩=some (.int .u8 Vq):=(Yc Wq.out 5).trans rfl;have hfz18_0:=Yf Wq.out 0;have hfz18_1:=Yf Wq.out 1;have hfz18_2:=Yf Wq.out 2;have hfz18_3:=Yf Wq.out 3;have hfz18_4:=Yf Wq.out 4;have hfz18_5:=Yf Wq.out 5)|((with_reducible refine gate_callee (f:=12) rfl ?_);refine goesL_ (some 23) rfl rfl Try.func12 (by kernel_rfl) rfl #[.agg #[.int .u8 Zb, .bool Zc, .slice Ze Za.length Zd, .int .u8 Vo, .int .u8 Vp, .int .u8 Vq], .int .i64 6] rfl (by(try simp only[List.map_toArray,List.map_cons,List.map_nil]);first|done|rfl|(simp only[List.length_drop,List.length_take];rfl)) ?_;(with_reducible refine(ebbtidelaw12_Read.calls k Zb Zc _ _ Za Vo Vp Vq 6 t579 t580 t581 t584 t585 t586 _ ?side1 ?side2 A5.out).mono ?_);(case side1=>repeat(first|exact(Yt Zo.out HB.out)|(with_reducible refine Kd.C_alloc ?_ _)|(with_reducible refine Kd.C_drewN ?_ _)|(with_reducible refine Kd.C_drew ?_)));(case side2=>exact Zz.out);rintro e w19 ⟨v582,rfl,ho0,hb⟩;refine⟨_,rfl,?_⟩;have n0_:=Ya (Kd.R_lower ho0 (Yi (by repeat(first|(with_reducible first|exact HB.out|apply Ye|apply Yd|apply Yg|refine Yh ?_ GE577.out)|exact HB.out))));have n1_:=Ya (Yn (g:=gb577) (o:= .cells #[.int .u8 Zb, .bool Zc, .slice Ze Za.length Zd, .int .u8 Vo, .int .u8 Vp, .int .u8 Vq] 24 (0,0)) (by(with_reducible repeat(first|refine Yl ?_ _|refine Ym ?_|refine Yj ?_ _));exact Wq.out) hb);have n2_:=Ya (Yk (by repeat(first|(with_reducible first|exact HB.out|apply Ye|apply Yd|apply Yg|refine Yh ?_ GE577.out)|exact HB.out)) hb);clear Wq;clear HB;have Vt:=n0_;have Wq:=n1_;have HB:=n2_;clear n0_ n1_ n2_;(try clear hb);(try clear hb2);(try clear hk);(try clear hi);(try clear ho0))|((with_reducible refine gate_dst (N:=6) rfl ?_);refine Yz ?hg (N:=6) ?hd (cs:= #[.int .i64 0, .bool false, .slice none 0 0]) (t:=32) ?hr ?_;(case hd=>rfl);(case hg=>rfl);(case hr=>first|(go_simp;done)|(go_simp;rfl));intro Jf hg w20 Zf hb;have n0_:=Ya (Ys (by(with_reducible repeat(first|apply Yr|apply Yq|apply Yp));exact Vt.out) hb);have n1_:=Ya (Yn (g:=gb577) (o:= .cells #[.int .u8 Zb, .bool Zc, .slice Ze Za.length Zd, .int .u8 Vo, .int .u8 Vp, .int .u8 Vq] 24 (0,0)) (by(with_reducible repeat(first|refine Yl ?_ _|refine Ym ?_|refine Yj ?_ _));exact Wq.out) hb);have n2_:=Ya (Yk (by repeat(first|(with_reducible first|exact HB.out|apply Ye|apply Yd|apply Yg|refine Yh ?_ GE577.out)|exact HB.out)) hb);have n3_:=Ya (Zf);have n4_:=Ya ((by rw[hg];exact(Yi (by repeat(first|(with_reducible first|exact HB.out|apply Ye|apply Yd|apply Yg|refine Yh ?_ GE577.out)|exact HB.out))):w.heap.size≤Jf));have n5_:=Ya ((by rw[hg];exact(Yi (by repeat(first|(with_reducible first|exact HB.out|apply Ye|apply Yd|apply Yg|refine Yh ?_ GE577.out)|exact HB.out))):w.heap.size≤Jf));have n6_:=Ya ((by rw[hg];exact Nat.ne_of_lt (blk_lt (g:=gb577) (o:= .cells #[.int .u8 Zb, .bool Zc, .slice Ze Za.length Zd, .int .u8 Vo, .int .u8 Vp, .int .u8 Vq] 24 (0,0)) (by(with_reducible repeat(first|refine Yl ?_ _|refine Ym ?_|refine Yj ?_ _));exact Wq.out)):gb577≠Jf));have n7_:=Ya ((by rw[hg];exact Nat.ne_of_gt (blk_lt (g:=gb577) (o:= .cells #[.int .u8 Zb, .bool Zc, .slice Ze Za.length Zd, .int .u8 Vo, .int .u8 Vp, .int .u8 Vq] 24 (0,0)) (by(with_reducible repeat(first|refine Yl ?_ _|refine Ym ?_|refine Yj ?_ _));exact Wq.out)):Jf≠gb577));clear Vt;clear Wq;clear HB;have Vt:=n0_;have Wq:=n1_;have HB:=n2_;have We:=n3_;have GW587:=n4_;have GE587:=n5_;have NB577_587:=n6_;have NB587_577:=n7_;clear n0_ n1_ n2_ n3_ n4_ n5_ n6_ n7_;clear hb Zf hg;have hnb21:=NB587_577.out;have hnc21:=NB577_587.out;have hcz22_0:w20.cell? ⟨Jf,0,none⟩=some (.int .i64 0):=(Yc We.out 0).trans rfl;have hcz22_1:w20.cell? ⟨Jf,1,none⟩=some (.bool false):=(Yc We.out 1).trans rfl;have hcz22_2:w20.cell? ⟨Jf,2,none⟩=some (.slice none 0 0):=(Yc We.out 2).trans rfl;have hfz22_0:=Yf We.out 0;have hfz22_1:=Yf We.out 1;have hfz22_2:=Yf We.out 2;obtain⟨Ao23,co23,eo23⟩:=Kd.R_slice Vt.out;subst eo23)|((with_reducible refine gate_callee (f:=15) rfl ?_);refine goesL_ (some 33) rfl rfl Try.func15 (by kernel_rfl) rfl #[.agg #[.int .i64 t579, .bool t580, .slice Ao23 t581.length co23], .int .i64 t584, .int .i64 t585, .int .i64 t586] rfl (by(try simp only[List.map_toArray,List.map_cons,List.map_nil]);first|done|rfl|(simp only[List.length_drop,List.length_take];rfl)) ?_;(with_reducible refine(ebbtideref16_Most.calls k t579 t580 _ _ t581 t584 t585 t586 t588 t589 _ ?side1 ?side2 A6.out).mono ?_);(case side1=>refine(Kd.R_reads' (e:=73) (base:=w.heap.size) (ok:=fun k_=>True) (n:=t581.length) (c:=co23) ?_).2.2;exact(by(with_reducible repeat(first|apply Yr|apply Yq|apply Yp));exact(Kd.R_mono (Kd.R_far (p:=⟨Jf,2,none⟩) (Kd.R_far (p:=⟨Jf,1,none⟩) (Kd.R_far (p:=⟨Jf,0,none⟩) (Kd.R_types Vt.out We.out (by decide)) (fun _ hk=>hk.2) (.int .i64 t579)) (fun _ hk=>hk.2) (.bool t580)) (fun _ hk=>hk.2) (.slice Ao23 t581.length co23)) (fun _ h_=>h_.1))));(case side2=>exact(Kd.R_reads' Vt.out).2.1);rintro e w24 ⟨rfl,hb⟩;refine⟨_,rfl,?_⟩;have n0_:=Ya (Ys (by(with_reducible repeat(first|apply Yr|apply Yq|apply Yp));exact(Kd.R_mono (Kd.R_far (p:=⟨Jf,2,none⟩) (Kd.R_far (p:=⟨Jf,1,none⟩) (Kd.R_far (p:=⟨Jf,0,none⟩) (Kd.R_types Vt.out We.out (by decide)) (fun _ hk=>hk.2) (.int .i64 t579)) (fun _ hk=>hk.2) (.bool t580)) (fun _ hk=>hk.2) (.slice Ao23 t581.length co23)) (fun _ h_=>h_.1))) hb);have n1_:=Ya (Yn (g:=gb577) (o:= .cells #[.int .u8 Zb, .bool Zc, .slice Ze Za.length Zd, .int .u8 Vo, .int .u8 Vp, .int .u8 Vq] 24 (0,0)) (by(with_reducible repeat(first|refine Yl ?_ _|refine Ym ?_|refine Yj ?_ _));refine blk_far ?_ NB577_587.out _;(with_reducible repeat(first|refine Yl ?_ _|refine Ym ?_|refine Yj ?_ _));refine blk_far ?_ NB577_587.out _;(with_reducible repeat(first|refine Yl ?_ _|refine Ym ?_|refine Yj ?_ _));refine blk_far ?_ NB577_587.out _;(with_reducible repeat(first|refine Yl ?_ _|refine Ym ?_|refine Yj ?_ _));exact Wq.out) hb);have n2_:=Ya (Yn (g:=Jf) (o:= .cells #[.int .i64 t579, .bool t580, .slice Ao23 t581.length co23] 32 (0,0)) (by(with_reducible repeat(first|refine Yl ?_ _|refine Ym ?_|refine Yj ?_ _));refine YA (cs:= #[.int .i64 t579, .bool t580, .slice none 0 0]) ?_ 2 _ rfl;(with_reducible repeat(first|refine Yl ?_ _|refine Ym ?_|refine Yj ?_ _));refine YA (cs:= #[.int .i64 t579, .bool false, .slice none 0 0]) ?_ 1 _ rfl;(with_reducible repeat(first|refine Yl ?_ _|refine Ym ?_|refine Yj ?_ _));refine YA (cs:= #[.int .i64 0, .bool false, .slice none 0 0]) ?_ 0 _ rfl;(with_reducible repeat(first|refine Yl ?_ _|refine Ym ?_|refine Yj ?_ _));exact We.out) hb);have n3_:=Ya (Yk (by repeat(first|(with_reducible first|exact HB.out|apply Ye|apply Yd|apply Yg|refine Yh ?_ GE577.out|refine Yh ?_ GE587.out)|exact HB.out)) hb);clear Vt;clear Wq;clear We;clear HB;have Vt:=n0_;have Wq:=n1_;have We:=n2_;have HB:=n3_;clear n0_ n1_ n2_ n3_;(try clear hb);(try clear hb2);(try clear hk);(try clear hi);have hcz25_0:w24.cell? ⟨Jf,0,none⟩=some (.int .i64 t579):=(Yc We.out 0).trans rfl;have hcz25_1:w24.cell? ⟨Jf,1,none⟩=some (.bool t580):=(Yc We.out 1).trans rfl;have hcz25_2:w24.cell? ⟨Jf,2,none⟩=some (.slice Ao23 t581.length co23):=(Yc We.out 2).trans rfl;have hfz25_0:=Yf We.out 0;have hfz25_1:=Yf We.out 1;have hfz25_2:=Yf We.out 2)|((with_reducible refine gate_callee (f:=16) rfl ?_);refine goesL_ (some 41) rfl rfl Try.func16 (by kernel_rfl) rfl #[.agg #[.int .i64 t579, .bool t580, .slice Ao23 t581.length co23], .int .i64 t584, .int .i64 t585, .int .i64 t586] rfl (by(try simp only[List.map_toArray,List.map_cons,List.map_nil]);first|done|rfl|(simp only[List.length_drop,List.length_take];rfl)) ?_;(with_reducible refine(ebbtideref16_Cut.calls k t579 t580 _ _ t581 t584 t585 t586 t590 t593 _ ?side1 ?side2 A7.out).mono ?_);(case side1=>repeat(first|exact(Kd.R_reads' Vt.out).2.2|(with_reducible refine Kd.C_alloc ?_ _)|(with_reducible refine Kd.C_drewN ?_ _)|(with_reducible refine Kd.C_drew ?_)));(case side2=>exact(Kd.R_reads' Vt.out).2.1);rintro e w26 ⟨v591,rfl,ho0,hb⟩;refine⟨_,rfl,?_⟩;have n0_:=Ya (Ys (by(with_reducible repeat(first|apply Yr|apply Yq|apply Yp));exact Vt.out) hb);have n1_:=Ya (Kd.R_lower ho0 (Yi (by repeat(first|(with_reducible first|exact HB.out|apply Ye|apply Yd|apply Yg|refine Yh ?_ GE577.out|refine Yh ?_ GE587.out)|exact HB.out))));have n2_:=Ya (Yn (g:=gb577) (o:= .cells #[.int .u8 Zb, .bool Zc, .slice Ze Za.length Zd, .int .u8 Vo, .int .u8 Vp, .int .u8 Vq] 24 (0,0)) (by(with_reducible repeat(first|refine Yl ?_ _|refine Ym ?_|refine Yj ?_ _));exact Wq.out) hb);have n3_:=Ya (Yn (g:=Jf) (o:= .cells #[.int .i64 t579, .bool t580, .slice Ao23 t581.length co23] 32 (0,0)) (by(with_reducible repeat(first|refine Yl ?_ _|refine Ym ?_|refine Yj ?_ _));exact We.out) hb);have n4_:=Ya (Yk (by repeat(first|(with_reducible first|exact HB.out|apply Ye|apply Yd|apply Yg|refine Yh ?_ GE577.out|refine Yh ?_ GE587.out)|exact HB.out)) hb);clear Vt;clear Wq;clear We;clear HB;have Vt:=n0_;have HO592:=n1_;have Wq:=n2_;have We:=n3_;have HB:=n4_;clear n0_ n1_ n2_ n3_ n4_;(try clear hb);(try clear hb2);(try clear hk);(try clear hi);(try clear ho0);have hcz27_0:w26.cell? ⟨Jf,0,none⟩=some (.int .i64 t579):=(Yc We.out 0).trans rfl;have hcz27_1:w26.cell? ⟨Jf,1,none⟩=some (.bool t580):=(Yc We.out 1).trans rfl;have hcz27_2:w26.cell? ⟨Jf,2,none⟩=some (.slice Ao23 t581.length co23):=(Yc We.out 2).trans rfl;have hfz27_0:=Yf We.out 0;have hfz27_1:=Yf We.out 1;have hfz27_2:=Yf We.out 2;obtain⟨Ao28,co28,eo28⟩:=Kd.R_slice HO592.out;subst eo28)|((with_reducible refine gate_callee (f:=10) rfl ?_);refine goesL_ (some 50) rfl rfl Try.func10 (by kernel_rfl) rfl #[.agg #[.int .i64 t579, .bool t580, .slice Ao23 t581.length co23], .int .i64 t584, .int .i64 t585, .int .i64 t586, .slice Ao28 t590.length co28] rfl (by(try simp only[List.map_toArray,List.map_cons,List.map_nil]);first|done|rfl|(simp only[List.length_drop,List.length_take];rfl)) ?_;(with_reducible refine(timecut_Check.calls t579 t580 _ _ t581 t584 t585 t586 _ _ t590 t594 t595 _ ?side1 ?side2 ?side3 ?side4 A8.out).mono ?_);(case side1=>repeat(first|exact(Kd.R_reads' Vt.out).2.2|(with_reducible refine Kd.C_alloc ?_ _)|(with_reducible refine Kd.C_drewN ?_ _)|(with_reducible refine Kd.C_drew ?_)));(case side2=>exact(Kd.R_reads' Vt.out).2.1);(case side3=>repeat(first|exact(Kd.R_reads' HO592.out).2.2|(with_reducible refine Kd.C_alloc ?_ _)|(with_reducible refine Kd.C_drewN ?_ _)|(with_reducible refine Kd.C_drew ?_)));(case side4=>exact(Kd.R_reads' HO592.out).2.1);rintro e w29 ⟨rfl,hb⟩;refine⟨_,rfl,?_⟩;have n0_:=Ya (Ys (by(with_reducible repeat(first|apply Yr|apply Yq|apply Yp));exact Vt.out) hb);have n1_:=Ya (Ys (by(with_reducible repeat(first|apply Yr|apply Yq|apply Yp));exact HO592.out) hb);have n2_:=Ya (Yn (g:=gb577) (o:= .cells #[.int .u8 Zb, .bool Zc, .slice Ze Za.length Zd, .int .u8 Vo, .int .u8 Vp, .int .u8 Vq] 24 (0,0)) (by(with_reducible repeat(first|refine Yl ?_ _|refine Ym ?_|refine Yj ?_ _));exact Wq.out) hb);have n3_:=Ya (Yn (g:=Jf) (o:= .cells #[.int .i64 t579, .bool t580, .slice Ao23 t581.length co23] 32 (0,0)) (by(with_reducible repeat(first|refine Yl ?_ _|refine Ym ?_|refine Yj ?_ _));exact We.out) hb);have n4_:=Ya (Yk (by repeat(first|(with_reducible first|exact HB.out|apply Ye|apply Yd|apply Yg|refine Yh ?_ GE577.out|refine Yh ?_ GE587.out)|exact HB.out)) hb);clear Vt;clear HO592;clear Wq;clear We;clear HB;have Vt:=n0_;have HO592:=n1_;have Wq:=n2_;have We:=n3_;have HB:=n4_;clear n0_ n1_ n2_ n3_ n4_;(try clear hb);(try clear hb2);(try clear hk);(try clear hi)))
 have n0_:=Ya (Yp Vt.out);have n1_:=Ya (Yp HO592.out);have n2_:=Ya (Ym Wq.out);have n3_:=Ya (Ym We.out);have n4_:=Ya (Yg HB.out);clear Vt;clear HO592;clear Wq;clear We;clear HB;have Vt:=n0_;have HO592:=n1_;have Wq:=n2_;have We:=n3_;have HB:=n4_;clear n0_ n1_ n2_ n3_ n4_;refine start_ (n:=16) (S:=fun w'=>w'.cell? ⟨Jf,0,none⟩=some (.int .i64 t579)∧w'.cell? ⟨Jf,1,none⟩=some (.bool t580)∧w'.cell? ⟨Jf,2,none⟩=some (.slice Ao23 t581.length co23)) (ds:=[]) #[false,false,false,false,false,false,false,false,false,false,false,false,false,false,false,false] (by kernel_rfl) rfl rfl ⟨(Yc We.out 0).trans rfl,(Yc We.out 1).trans rfl,(Yc We.out 2).trans rfl⟩ (fun hHeld=> ?_);refine with_tabW ebbtidelaw18_TimecutLeast.tab8 ebbtidelaw18_TimecutLeast.bits8 (fun HT_ HW_=> ?_);generalize w29.drew=w30 at Vt HO592 Wq We HB hHeld ⊢;refine pure_ (i:=1) (N:=some 55) (v:= ?_) (a':= ?_) #[false,true,false,false,false,false,false,false,false,false,false,false,false,false,false,false] rfl rfl (any_of HT_.out (by kernel_rfl)) (fun _ _ _ h=>h) (Or.inl ⟨by rfl,?_⟩) ?_ ?_
 rotate_left
 ·intro w'
  go_simp
  with_reducible rfl
 rotate_left
 ·simp only[Act.put,List.setIfInBounds_toArray,List.set_cons_zero,List.set_cons_succ,i64_w,i32_w]
  rfl
 refine pure_ (i:=2) (N:=some 56) (v:= ?_) (a':= ?_) #[false,true,true,false,false,false,false,false,false,false,false,false,false,false,false,false] rfl rfl (any_of HT_.out (by kernel_rfl)) (fun _ _ _ h=>h) (Or.inl ⟨by rfl,?_⟩) ?_ ?_
 rotate_left
 ·intro w'
  go_simp
  with_reducible rfl
 rotate_left
 ·simp only[Act.put,List.setIfInBounds_toArray,List.set_cons_zero,List.set_cons_succ,i64_w,i32_w]
  rfl
 refine pure_ (i:=3) (N:=some 57) (v:= ?_) (a':= ?_) #[false,true,true,true,false,false,false,false,false,false,false,false,false,false,false,false] rfl rfl (any_of HT_.out (by kernel_rfl)) (fun _ _ _ h=>h) (Or.inl ⟨by rfl,?_⟩) ?_ ?_
 rotate_left
 ·intro w'
  go_simp
  with_reducible rfl
 rotate_left
 ·simp only[Act.put,List.setIfInBounds_toArray,List.set_cons_zero,List.set_cons_succ,i64_w,i32_w]
  rfl
 refine pure_ (i:=5) (N:=some 59) (v:= ?_) (a':= ?_) #[false,true,true,true,false,true,false,false,false,false,false,false,false,false,false,false] rfl rfl (any_of HT_.out (by kernel_rfl)) (fun _ _ _ h=>h) (Or.inl ⟨by rfl,?_⟩) ?_ ?_
 rotate_left
 ·intro w'
  go_simp
  with_reducible rfl
 rotate_left
 ·simp only[Act.put,List.setIfInBounds_toArray,List.set_cons_zero,List.set_cons_succ,i64_w,i32_w]
  rfl
 refine pure_ (i:=6) (N:=some 60) (v:= ?_) (a':= ?_) #[false,true,true,true,false,true,true,false,false,false,false,false,false,false,false,false] rfl rfl (any_of HT_.out (by kernel_rfl)) (fun _ _ _ h=>h) (Or.inl ⟨by rfl,?_⟩) ?_ ?_
 rotate_left
 ·intro w'
  go_simp
  with_reducible rfl
 rotate_left
 ·simp only[Act.put,List.setIfInBounds_toArray,List.set_cons_zero,List.set_cons_succ,i64_w,i32_w]
  rfl
 refine pure_ (i:=7) (N:=some 61) (v:= ?_) (a':= ?_) #[false,true,true,true,false,true,true,true,false,false,false,false,false,false,false,false] rfl rfl (any_of HT_.out (by kernel_rfl)) (fun _ _ _ h=>h) (Or.inl ⟨by rfl,?_⟩) ?_ ?_
 rotate_left
 ·intro w'
  go_simp
  with_reducible rfl
 rotate_left
 ·simp only[Act.put,List.setIfInBounds_toArray,List.set_cons_zero,List.set_cons_succ,i64_w,i32_w]
  rfl
 refine pure_ (i:=8) (N:=some 62) (v:= ?_) (a':= ?_) #[false,true,true,true,false,true,true,true,true,false,false,false,false,false,false,false] rfl rfl (any_of HT_.out (by kernel_rfl)) (fun _ _ _ h=>h) (Or.inl ⟨by rfl,?_⟩) ?_ ?_
 rotate_left
 ·intro w'
  go_simp
  with_reducible rfl
 rotate_left
 ·simp only[Act.put,List.setIfInBounds_toArray,List.set_cons_zero,List.set_cons_succ,i64_w,i32_w]
  rfl
 refine take_ (i:=0) (N:=some 54) (v:= ?_) (a':= ?_) #[true,true,true,true,false,true,true,true,true,false,false,false,false,false,false,false] rfl rfl (take_ofW HT_.out HW_.out (by kernel_rfl)) (fun _ _ _ h=>h) (Or.inl ⟨by rfl,?_⟩) hHeld ?_ ?_
 rotate_left
 ·rintro w' ⟨s0,s1,s2⟩
  go_simp
  with_reducible rfl
 rotate_left
 ·simp only[Act.put,List.setIfInBounds_toArray,List.set_cons_zero,List.set_cons_succ,i64_w,i32_w]
  rfl
 refine take_ (i:=4) (N:=some 58) (v:= ?_) (a':= ?_) #[true,true,true,true,true,true,true,true,true,false,false,false,false,false,false,false] rfl rfl (take_ofW HT_.out HW_.out (by kernel_rfl)) (fun _ _ _ h=>h) (Or.inl ⟨by rfl,?_⟩) hHeld ?_ ?_
 rotate_left
 ·rintro w' ⟨s0,s1,s2⟩
  go_simp
  with_reducible rfl
 rotate_left
 ·simp only[Act.put,List.setIfInBounds_toArray,List.set_cons_zero,List.set_cons_succ,i64_w,i32_w]
  rfl
 refine one_ (i:=9) (N:=some 63) #[true,true,true,true,true,true,true,true,true,true,false,false,false,false,false,false] rfl rfl (one_of HT_.out (by kernel_rfl)) (by decide) (fun K hK=> ?_);refine goes_ Try.func11 (by kernel_rfl) rfl #[.agg #[.int .i64 t579, .bool t580, .slice Ao23 t581.length co23], .int .i64 t584, .int .i64 t585, .int .i64 t586, .slice A1 l1.length c1] (by rfl) rfl rfl (by(try simp only[List.map_toArray,List.map_cons,List.map_nil]);first|done|rfl|(simp only[List.length_drop,List.length_take];rfl)) ?_
 with_reducible refine(ebbtidelaw18_Made.calls k t579 t580 _ _ t581 t584 t585 t586 _ _ l1 t596 _ ?side1 ?side2 ?side3 ?side4 A9.out).mono ?_
 (case side1=>repeat(first|exact(Kd.R_reads' Vt.out).2.2|(with_reducible refine Kd.C_alloc ?_ _)|(with_reducible refine Kd.C_drewN ?_ _)|(with_reducible refine Kd.C_drew ?_)))
 (case side2=>exact(Kd.R_reads' Vt.out).2.1)
 (case side3=>repeat(first|exact(Yt HR1.out HB.out)|(with_reducible refine Kd.C_alloc ?_ _)|(with_reducible refine Kd.C_drewN ?_ _)|(with_reducible refine Kd.C_drew ?_)))
 (case side4=>exact HC1.out)
 rintro e w31 ⟨v597,rfl,ho0,hb⟩;refine⟨_,rfl,?_⟩;have n0_:=Ya (Ys (by(with_reducible repeat(first|apply Yr|apply Yq|apply Yp));exact Vt.out) hb);have n1_:=Ya (Kd.R_elder' (by(with_reducible repeat(first|apply Yr|apply Yq|apply Yp));exact HO592.out) (Kd.R_base ho0) hb);have n2_:=Ya (Kd.R_lower (Kd.R_new' ho0 (Kd.R_lt (by(with_reducible repeat(first|apply Yr|apply Yq|apply Yp));exact HO592.out))) (Yi (by repeat(first|(with_reducible first|exact HB.out|apply Ye|apply Yd|apply Yg|refine Yh ?_ GE577.out|refine Yh ?_ GE587.out)|exact HB.out))));have n3_:=Ya (Yn (g:=gb577) (o:= .cells #[.int .u8 Zb, .bool Zc, .slice Ze Za.length Zd, .int .u8 Vo, .int .u8 Vp, .int .u8 Vq] 24 (0,0)) (by(with_reducible repeat(first|refine Yl ?_ _|refine Ym ?_|refine Yj ?_ _));exact Wq.out) hb);have n4_:=Ya (Yn (g:=Jf) (o:= .cells #[.int .i64 t579, .bool t580, .slice Ao23 t581.length co23] 32 (0,0)) (by(with_reducible repeat(first|refine Yl ?_ _|refine Ym ?_|refine Yj ?_ _));exact We.out) hb);have n5_:=Ya (Yk (by repeat(first|(with_reducible first|exact HB.out|apply Ye|apply Yd|apply Yg|refine Yh ?_ GE577.out|refine Yh ?_ GE587.out)|exact HB.out)) hb);clear Vt;clear HO592;clear Wq;clear We;clear HB;have Vt:=n0_;have HO592:=n1_;have HO598:=n2_;have Wq:=n3_;have We:=n4_;have HB:=n5_;clear n0_ n1_ n2_ n3_ n4_ n5_
 (try clear hb)
 (try clear hb2)
 (try clear hk)
 (try clear hi)
 (try clear ho0)
 obtain⟨Ao32,co32,eo32⟩:=Kd.R_slice HO598.out
 (first|subst eo32|(injection eo32 with f1_ f2_ f3_;have f4_:=f1_.symm;have f5_:=f3_.symm;clear f1_ f2_ f3_;subst f4_;subst f5_))
 refine hK.out _ _ ⟨(Yc We.out 0).trans rfl,(Yc We.out 1).trans rfl,(Yc We.out 2).trans rfl⟩ (fun hHeld=> ?_);clear hK K;refine norm_ (a':= ?_) ?_ ?_
 rotate_left
 ·show Act.put _ (some 63) _=_
  simp only[Act.put,List.setIfInBounds_toArray,List.set_cons_zero,List.set_cons_succ,i64_w,i32_w];rfl
 refine one_ (i:=10) (N:=some 64) #[true,true,true,true,true,true,true,true,true,true,true,false,false,false,false,false] rfl rfl (one_of HT_.out (by kernel_rfl)) (by decide) (fun K hK=> ?_);refine goes_ Try.func10 (by kernel_rfl) rfl #[.agg #[.int .i64 t579, .bool t580, .slice Ao23 t581.length co23], .int .i64 t584, .int .i64 t585, .int .i64 t586, .slice Ao32 t596.length co32] (by rfl) rfl rfl (by(try simp only[List.map_toArray,List.map_cons,List.map_nil]);first|done|rfl|(simp only[List.length_drop,List.length_take];rfl)) ?_
 with_reducible refine(timecut_Check.calls t579 t580 _ _ t581 t584 t585 t586 _ _ t596 t599 t600 _ ?side1 ?side2 ?side3 ?side4 A10.out).mono ?_
 (case side1=>repeat(first|exact(Kd.R_reads' Vt.out).2.2|(with_reducible refine Kd.C_alloc ?_ _)|(with_reducible refine Kd.C_drewN ?_ _)|(with_reducible refine Kd.C_drew ?_)))
 (case side2=>exact(Kd.R_reads' Vt.out).2.1)
 (case side3=>repeat(first|exact(Kd.R_reads' HO598.out).2.2|(with_reducible refine Kd.C_alloc ?_ _)|(with_reducible refine Kd.C_drewN ?_ _)|(with_reducible refine Kd.C_drew ?_)))
 (case side4=>exact(Kd.R_reads' HO598.out).2.1)
 rintro e w33 ⟨rfl,hb⟩;refine⟨_,rfl,?_⟩;have n0_:=Ya (Ys (by(with_reducible repeat(first|apply Yr|apply Yq|apply Yp));exact Vt.out) hb);have n1_:=Ya (Ys (by(with_reducible repeat(first|apply Yr|apply Yq|apply Yp));exact HO592.out) hb);have n2_:=Ya (Ys (by(with_reducible repeat(first|apply Yr|apply Yq|apply Yp));exact HO598.out) hb);have n3_:=Ya (Yn (g:=gb577) (o:= .cells #[.int .u8 Zb, .bool Zc, .slice Ze Za.length Zd, .int .u8 Vo, .int .u8 Vp, .int .u8 Vq] 24 (0,0)) (by(with_reducible repeat(first|refine Yl ?_ _|refine Ym ?_|refine Yj ?_ _));exact Wq.out) hb);have n4_:=Ya (Yn (g:=Jf) (o:= .cells #[.int .i64 t579, .bool t580, .slice Ao23 t581.length co23] 32 (0,0)) (by(with_reducible repeat(first|refine Yl ?_ _|refine Ym ?_|refine Yj ?_ _));exact We.out) hb);have n5_:=Ya (Yk (by repeat(first|(with_reducible first|exact HB.out|apply Ye|apply Yd|apply Yg|refine Yh ?_ GE577.out|refine Yh ?_ GE587.out)|exact HB.out)) hb);clear Vt;clear HO592;clear HO598;clear Wq;clear We;clear HB;have Vt:=n0_;have HO592:=n1_;have HO598:=n2_;have Wq:=n3_;have We:=n4_;have HB:=n5_;clear n0_ n1_ n2_ n3_ n4_ n5_
 (try clear hb)
 (try clear hb2)
 (try clear hk)
 (try clear hi)
 refine hK.out _ _ ⟨(Yc We.out 0).trans rfl,(Yc We.out 1).trans rfl,(Yc We.out 2).trans rfl⟩ (fun hHeld=> ?_);clear hK K;refine norm_ (a':= ?_) ?_ ?_
 rotate_left
 ·show Act.put _ (some 64) _=_
  simp only[Act.put,List.setIfInBounds_toArray,List.set_cons_zero,List.set_cons_succ,i64_w,i32_w];rfl
 refine pure_ (i:=11) (N:=some 53) (v:= ?_) (a':= ?_) #[true,true,true,true,true,true,true,true,true,true,true,true,false,false,false,false] rfl rfl (any_of HT_.out (by kernel_rfl)) (fun _ _ _ h=>h) (Or.inl ⟨by rfl,?_⟩) ?_ ?_
 rotate_left
 ·intro w'
  go_simp
  with_reducible rfl
 rotate_left
 ·simp only[Act.put,List.setIfInBounds_toArray,List.set_cons_zero,List.set_cons_succ,i64_w,i32_w]
  rfl
 refine pure_ (i:=12) (N:=some 65) (v:= ?_) (a':= ?_) #[true,true,true,true,true,true,true,true,true,true,true,true,true,false,false,false] rfl rfl (any_of HT_.out (by kernel_rfl)) (fun _ _ _ h=>h) (Or.inl ⟨by rfl,?_⟩) ?_ ?_
 rotate_left
 ·intro w'
  go_simp
  with_reducible rfl
 rotate_left
 ·simp only[Act.put,List.setIfInBounds_toArray,List.set_cons_zero,List.set_cons_succ,i64_w,i32_w]
  rfl
 refine pure_ (i:=13) (N:=some 66) (v:= ?_) (a':= ?_) #[true,true,true,true,true,true,true,true,true,true,true,true,true,true,false,false] rfl rfl (any_of HT_.out (by kernel_rfl)) (fun _ _ _ h=>h) (Or.inl ⟨by rfl,?_⟩) ?_ ?_
 rotate_left
 ·intro w'
  go_simp
  with_reducible rfl
 rotate_left
 ·simp only[Act.put,List.setIfInBounds_toArray,List.set_cons_zero,List.set_cons_succ,i64_w,i32_w]
  rfl
 refine pure_ (i:=14) (N:=some 16) (v:= ?_) (a':= ?_) #[true,true,true,true,true,true,true,true,true,true,true,true,true,true,true,false] rfl rfl (any_of HT_.out (by kernel_rfl)) (fun _ _ _ h=>h) (Or.inl ⟨by rfl,?_⟩) ?_ ?_
 rotate_left
 ·intro w'
  go_simp
  with_reducible rfl
 rotate_left
 ·simp only[Act.put,List.setIfInBounds_toArray,List.set_cons_zero,List.set_cons_succ,i64_w,i32_w]
  rfl
 refine pure_ (i:=15) (N:=some 17) (v:= ?_) (a':= ?_) #[true,true,true,true,true,true,true,true,true,true,true,true,true,true,true,true] rfl rfl (any_of HT_.out (by kernel_rfl)) (fun _ _ _ h=>h) (Or.inl ⟨by rfl,?_⟩) ?_ ?_
 rotate_left
 ·intro w'
  go_simp
  with_reducible rfl
 rotate_left
 ·simp only[Act.put,List.setIfInBounds_toArray,List.set_cons_zero,List.set_cons_succ,i64_w,i32_w]
  rfl
 refine done_ (done_of HT_.out (by kernel_rfl)) ?_;try go_wp2
 go_ret;exact⟨by first|rfl|(simp[errW_none,errW_some]<;>rfl)|(simp[*,errW_none,errW_some]<;>rfl),by repeat(first|(with_reducible first|exact HB.out|apply Ye|apply Yd|apply Yg|refine Yh ?_ GE577.out|refine Yh ?_ GE587.out)|exact HB.out)⟩
end P
end Go.Proofs.Ytjaoknhhoicigaa
