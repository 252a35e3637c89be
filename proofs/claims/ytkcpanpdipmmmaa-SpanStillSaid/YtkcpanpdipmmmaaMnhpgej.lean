/- What the law's row needs of these texts, taken out of them by wip/tool/mini.py: QSetWalk QSortNil QSortRow QAt QFromWalk QCostLaw QByLaw QSpanStep QSpanRun QSeekLaw QQueLaw QRawMem P58 QQueGrow QQuePut P55 P56 QRepeatWalk QLeast. -/
import Derived.Test.YtkcpanpdipmmmaaMbioojn
import Derived.Test.YtkcpanpdipmmmaaMonmahc
import Derived.RegionTactic
import Derived.ChangeAlike
import Derived.BigRegion
import Derived.LoopTactic
import Derived.WalkKit
import Derived.WalkMore
import Derived.Deep.RegionHeld3
import Derived.Deep.RegionLaw
import Derived.Deep.AppendLies
import Derived.IntWalk
import Derived.Laws.IdiomCopy
import Derived.Laws.CopyOwn
import Derived.Test.YtkcpanpdipmmmaaProg
set_option linter.unusedVariables false
set_option linter.unusedSimpArgs false
open Go.RowKit Go.Proofs.YtkcpanpdipmmmaaW.PrintWords Go.Proofs.YtkcpanpdipmmmaaW.PrintLast Go.Proofs.YtkcpanpdipmmmaaW.PrintMore
namespace Go.Proofs.Ytkcpanpdipmmmaa
namespace H
open P
attribute [local irreducible] wpQuiet
theorem goes_step {l:List S74} {F:List Int} {n k:Nat} {x x':Rch} (hs:roundR l F n x=x') (h:x'.still=false):goesR l F n (k+1) x=goesR l F n k x':=by
 subst hs
 show (if _ then _ else _)=_
 rw[Yy (by rw[h];simp)]
theorem goes_end {l:List S74} {F:List Int} {n k:Nat} {x x':Rch} (hs:roundR l F n x=x') (h:x'.still=true):goesR l F n (k+1) x=(x',true):=by
 subst hs
 show (if _ then _ else _)=_
 rw[Yx h]
def upV (l:List S74) (F:List Int) (x:Rch) (v:Nat):Rch:=(List.range v).foldl (rowR l F) { x with still:=true }
def upJ (l:List S74) (F:List Int) (v:Nat) (y:Rch) (j:Nat):Rch:=((stL l v l.length).take j).foldl (visR l F v) y
theorem upV_succ (l:List S74) (F:List Int) (x:Rch) (v:Nat):upV l F x (v+1)=rowR l F (upV l F x v) v:=by
 unfold upV
 rw[List.range_succ,List.foldl_append]
 rfl
theorem upJ_succ (l:List S74) (F:List Int) (v:Nat) (y:Rch) (j:Nat) (hj:j<(stL l v l.length).length):upJ l F v y (j+1)=visR l F v (upJ l F v y j) (rd_T38 (stL l v l.length) (j:Int)):=by
 unfold upJ
 have e:(stL l v l.length).take (j+1)=(stL l v l.length).take j ++ [rd_T38 (stL l v l.length) (j:Int)]:=by
  rw[List.take_add_one,List.getElem?_eq_getElem hj]
  show _ ++ [_]=_ ++ [(stL l v l.length).getD (j:Int).toNat z38]
  rw[Int.toNat_natCast,List.getD_eq_getElem?_getD,List.getElem?_eq_getElem hj]
  rfl
 rw[e,List.foldl_append]
 rfl
theorem upJ_all (l:List S74) (F:List Int) (v:Nat) (y:Rch) (hv:y.I.getD v false=true):upJ l F v y (stL l v l.length).length=rowR l F y v:=by
 unfold upJ rowR
 rw[List.take_length,Yx hv]
theorem vis_on {l:List S74} {F:List Int} {v:Nat} {x:Rch} {s:S38} (h:visC l F v x s=true):visR l F v x s=⟨x.D.set (stTo l s).toNat (x.D.getD v 0+stTime l s),x.I.set (stTo l s).toNat true,x.B.set (stTo l s).toNat s,false⟩:=by
 unfold visR;rw[Yx h]
theorem vis_off {l:List S74} {F:List Int} {v:Nat} {x:Rch} {s:S38} (h:visC l F v x s=false):visR l F v x s=x:=by
 unfold visR;rw[Yy (by rw[h];simp)]
theorem rows_at {l:List S74} {n v:Nat} (hv:v<n):rd_L4 (rowsAt l n n) (v:Int)=stL l v l.length:=by
 unfold rd_L4
 rw[Int.toNat_natCast,List.getD_eq_getElem?_getD,rowsAt_get l n n v hv,Yx hv]
 rfl
theorem set_true (L:List Bool) (u v:Nat) (h:L.getD v false=true):(L.set u true).getD v false=true:=by
 by_cases e:u=v
 ·subst e
  by_cases hl:u<L.length
  ·exact getD_set_eq _ _ _ _ hl
  ·rw[List.getD_eq_getElem?_getD,List.getElem?_eq_none (by omega)] at h
   cases h
 ·rw[getD_set_ne _ _ _ _ _ e];exact h
set_option maxHeartbeats 2000000 in
set_option maxRecDepth 100000 in
theorem settled_calls (n0:Nat) (Zb:Bool) (A2:Option Addr) (c2:Nat) (l:List S74) (A3:Option Addr) (c3:Nat) (F:List Int) (A4:Option Addr) (c4:Nat) (gd gi gb cd ci cb b0:Nat) (x:Rch) (w:World)
  (hR:Right l F n0) (hx:x.Ok n0) (hD0:Bd x.D 0) (hc2:l.length≤c2) (hc3:F.length≤c3)
  (h2:Kd.F k74 w (okR gd gi gb) A2 l.length l) (h3:Kd.F (Kd.int .i64) w (okR gd gi gb) A3 F.length F) (h4:Kd.V (Kd.slice 38 k38) 34 w w.heap.size (okR gd gi gb) (.slice A4 n0 c4) (rowsAt l n0 n0))
  (hD:Kd.R (Kd.int .i64) 3 w b0 (fun _=>True) (.slice (some ⟨gd,0,none⟩) n0 cd) x.D) (hI:Kd.R Kd.bool 4 w b0 (fun _=>True) (.slice (some ⟨gi,0,none⟩) n0 ci) x.I) (hB:Kd.R k38 38 w b0 (fun _=>True) (.slice (some ⟨gb,0,none⟩) n0 cb) x.B):
  Calls Try.prog 100 #[.agg #[.int .i64 n0, .bool Zb, .slice A2 l.length c2, .slice A3 F.length c3, .slice A4 n0 c4], .agg #[.slice (some ⟨gd,0,none⟩) n0 cd, .slice (some ⟨gi,0,none⟩) n0 ci, .slice (some ⟨gb,0,none⟩) n0 cb]] w fun e w'=>e= .returned (.bool (goesR l F n0 (n0+1) x).2)∧Kp gd gi gb w w'∧
   Kd.R (Kd.int .i64) 3 w' b0 (fun _=>True) (.slice (some ⟨gd,0,none⟩) n0 cd) (goesR l F n0 (n0+1) x).1.D∧Kd.R Kd.bool 4 w' b0 (fun _=>True) (.slice (some ⟨gi,0,none⟩) n0 ci) (goesR l F n0 (n0+1) x).1.I∧Kd.R k38 38 w' b0 (fun _=>True) (.slice (some ⟨gb,0,none⟩) n0 cb) (goesR l F n0 (n0+1) x).1.B:=by
 have hu118:=Try.underlying118
 have hu109:=Try.underlying109
 have HR:=Ya hR
 have HC2:=Ya hc2
 have HC3:=Ya hc3
 have H2:=Ya h2
 have H3:=Ya h3
 have H4:=Ya h4
 have HD:=Ya hD
 have HI:=Ya hI
 have HBB:=Ya hB
 have hn50:n0≤50:=hR.fifty
 have hn0:0<n0:=hR.pos
 clear hR h2 h3 h4 hD hI hB hc2 hc3
 obtain⟨XT,hXT⟩: ∃ y_,y_=goesR l F n0 (n0+1) x:=⟨_,rfl⟩
 rw[← hXT]
 have HXT:=Ya hXT.symm
 clear hXT
 have HB:=Ya (Yo w.heap.size w)
 go_enter Try.func100,Try.ntmps100
 go_wp2_with (first|((with_reducible refine gate_dst (N:=2) rfl ?_);refine Yz ?hg (N:=2) ?hd (cs:= #[.int .i64 n0, .bool Zb, .slice A2 l.length c2, .slice A3 F.length c3, .slice A4 n0 c4]) (t:=118) ?hr ?_;(case hd=>rfl);(case hg=>rfl);(case hr=>first|(go_simp;done)|(go_simp;rfl));intro g2 hg w4 Zf hb;have n0_:=Ya (Yk HB.out hb);have B2:=Ya Zf;clear HB;have HB:=n0_;clear n0_ hb Zf hg)|((with_reducible refine gate_dst (N:=3) rfl ?_);refine Yz ?hg (N:=3) ?hd (cs:= #[.slice (some ⟨gd,0,none⟩) n0 cd, .slice (some ⟨gi,0,none⟩) n0 ci, .slice (some ⟨gb,0,none⟩) n0 cb]) (t:=109) ?hr ?_;(case hd=>rfl);(case hg=>rfl);(case hr=>first|(go_simp;done)|(go_simp;rfl));intro g3 hg w5 Zf hb;have n0_:=Ya (Yk HB.out hb);have n1_:=Ya (Yn B2.out hb);have B3:=Ya Zf;clear HB B2;have HB:=n0_;have B2:=n1_;clear n0_ n1_ hb Zf hg)|fail)
 go_step3
 go_wp2
 go_step3
 have HF:Aside0 (Fm n0 Zb A2 c2 l A3 c3 F A4 c4 gd gi gb cd ci cb b0 g2 g3 w (x) (w5)):=⟨⟨Ys HD.out HB.out,Ys HI.out HB.out,Ys HBB.out HB.out,B2.out,B3.out,Kd.F_below H2.out HB.out,Kd.F_below H3.out HB.out,Kd.V_below H4.out HB.out,(Kp.refl gd gi gb w).below HB.out⟩⟩
 clear HD HI HBB H2 H3 H4 HB
 have hb20:w5.cell? ⟨g2,0,none⟩=some (.int .i64 n0):=(Yc B2.out 0).trans rfl
 go_wp2_with fail
 clear hb20 B2 B3
 go_loopw [16] (fun v16 w'=> ∃ r:Nat,r≤n0+1∧v16= .int .i64 r∧ ∃ x':Rch,Aside0 (x'.Ok n0)∧Aside0 (Bd x'.D (20000 * (r:Int)))∧Aside0 (goesR l F n0 (n0+1 - r) x'=XT)∧Aside0 (Fm n0 Zb A2 c2 l A3 c3 F A4 c4 gd gi gb cd ci cb b0 g2 g3 w (x') (w'))) (fun v16 _=>n0+1 - (intOf v16).toNat)
 case atStart=>exact⟨0,Nat.zero_le _,rfl,x,⟨hx⟩,⟨by simpa using hD0⟩,HXT,HF⟩
 case round=>
  clear HF HXT
  obtain⟨r,hr,rfl,x1,HO1,HBD1,HG1,HF⟩:=hrel
  by_cases hlt:r<n0+1
  ·have c17:decide ((r:Int)<(n0:Int)+1)=true:=Yv (by omega)
   have hb20:wr.cell? ⟨g2,0,none⟩=some (.int .i64 n0):=(Yc HF.out.b2 0).trans rfl
   go_wp2_with fail
   clear hb20
   have HF2:=Ya (HF.out.still true)
   have HO2:Aside0 ((upV l F x1 0).Ok n0):=⟨⟨HO1.out.hD,HO1.out.hI,HO1.out.hB⟩⟩
   clear HF
   obtain⟨w1,hw1⟩: ∃ x_:World,x_=wr:=⟨_,rfl⟩
   subst hw1
   go_loopw [22,5] (fun v22 v5 w'=> ∃ v:Nat,v≤n0∧v22= .int .i64 v∧ ∃ y:Rch,v5= .bool y.still∧Aside0 (y=upV l F x1 v)∧Aside0 (y.Ok n0)∧Aside0 (Bd y.D (20000 * (r:Int)+400 * (v:Int)))∧Aside0 (Fm n0 Zb A2 c2 l A3 c3 F A4 c4 gd gi gb cd ci cb b0 g2 g3 w (y) (w'))) (fun v22 _ _=>n0 - (intOf v22).toNat)
   case atStart=>exact⟨0,Nat.zero_le _,rfl,upV l F x1 0,rfl,⟨rfl⟩,HO2,⟨by show Bd x1.D _;simpa using HBD1.out⟩,HF2⟩
   case round=>
    clear HF2 HO2 HBD1 HO1
    obtain⟨v,hv,rfl,y,rfl,HY,HO,HBD,HF⟩:=hrel
    by_cases hltv:v<n0
    ·have c23:decide ((v:Int)<(n0:Int))=true:=Yv (by omega)
     have hb31:wr.cell? ⟨g3,1,none⟩=some (.slice (some ⟨gi,0,none⟩) n0 ci):=(Yc HF.out.b3 1).trans rfl
     have hiv:=HF.out.iv hltv
     have pv:0≤((v:Nat):Int):=by omega
     have qv:((v:Nat):Int)<(n0:Int):=by omega
     cases hIv:y.I.getD v false with
     |false=>
      rw[hIv] at hiv
      have HYS:Aside0 (y=upV l F x1 (v+1)):=⟨by rw[upV_succ, ← HY.out];unfold rowR;rw[Yy (by rw[hIv];simp)]⟩
      clear hIv
      go_wp2_with fail
      clear hb31 hiv
      go_roundw
      case rel=>exact⟨v+1,by omega,by first|rfl|go_num,y,rfl,HYS,HO,⟨HBD.out.mono (by omega)⟩,HF⟩
      case measure=>simp[intOf]<;>omega
     |true=>
      rw[hIv] at hiv
      have HIV:=Ya hIv
      have HIVy:=Ya hIv
      clear hIv
      have hc0:wr.cell? ⟨g2,0,none⟩=some (.int .i64 n0):=(Yc HF.out.b2 0).trans rfl
      have hc1:wr.cell? ⟨g2,1,none⟩=some (.bool Zb):=(Yc HF.out.b2 1).trans rfl
      have hc2:wr.cell? ⟨g2,2,none⟩=some (.slice A2 l.length c2):=(Yc HF.out.b2 2).trans rfl
      have hc3:wr.cell? ⟨g2,3,none⟩=some (.slice A3 F.length c3):=(Yc HF.out.b2 3).trans rfl
      have hc4:wr.cell? ⟨g2,4,none⟩=some (.slice A4 n0 c4):=(Yc HF.out.b2 4).trans rfl
      have hSt:=level_Seeker_Steps.calls (n0:Int) Zb A2 c2 l A3 c3 F (okR gd gi gb) A4 c4 (rowsAt l n0 n0) (v:Int) (stL l v l.length) wr (Kd.F_now HF.out.arcs) HC2.out (Kd.F_now HF.out.flow) HC3.out (by rw[rowsAt_len];exact HF.out.rows) (by unfold level_Seeker_Steps.f;rw[rowsAt_len,Yx pv,Yx qv,rows_at hltv])
      rw[rowsAt_len] at hSt
      have HST:=Ya hSt
      clear hSt
      obtain⟨RW,hRW⟩: ∃ r_,r_=stL l v l.length:=⟨_,rfl⟩
      have HRW:=Ya hRW
      have HRL:RW.length≤400:=by rw[hRW];have:=stL_len l v l.length;have:=HR.out.arcs;omega
      clear hRW
      go_wp2_with (first|(go_at_call 140;refine HST.out.mono ?_;rintro e_ w20 ⟨v0,rfl,hv,hb⟩;rw[← HRW.out] at hv;obtain⟨Av,cv,ev⟩:=Kd.V_slice hv;subst ev;have VR:Aside0 (Kd.V k38 38 w20 0 (okR gd gi gb) (.slice Av RW.length cv) RW):=⟨Kd.V_mono hv (fun k hk=>hk.elim id (fun h=>by obtain⟨_,_,_,_,_,_,_,_,_,p1,p2,p3⟩:=HF.out.blocks HO.out hn0;exact⟨by omega,by omega,by omega⟩))⟩;have n0_:=Ya (HF.out.below hb);clear HF;have HF:=n0_;clear n0_ hv hb hc0 hc1 hc2 hc3 hc4 hb31 hiv)|fail)
      obtain⟨w2,hw2⟩: ∃ x_:World,x_=w20:=⟨_,rfl⟩
      subst hw2
      have HZ0:Aside0 (y=upJ l F v y 0):=⟨rfl⟩
      go_loopw [35,5] (fun v35 v5 w'=> ∃ j:Nat,j≤RW.length∧v35= .int .i64 j∧ ∃ z:Rch,v5= .bool z.still∧Aside0 (z=upJ l F v y j)∧Aside0 (z.Ok n0)∧Aside0 (Bd z.D (20000 * (r:Int)+400 * (v:Int)+(j:Int)))∧Aside0 (z.I.getD v false=true)∧Aside0 (Fm n0 Zb A2 c2 l A3 c3 F A4 c4 gd gi gb cd ci cb b0 g2 g3 w (z) (w'))∧Aside0 (Kd.V k38 38 w' 0 (okR gd gi gb) (.slice Av RW.length cv) RW)) (fun v35 _ _=>RW.length - (intOf v35).toNat)
      case atStart=>exact⟨0,Nat.zero_le _,rfl,y,rfl,HZ0,HO,⟨by simpa using HBD.out⟩,HIV,HF,VR⟩
      case round=>
       clear HZ0 HBD HIV HF VR
       obtain⟨j,hj,rfl,z,rfl,HZ,HOz,HBD,HIV,HF,VR⟩:=hrel
       by_cases hltj:j<RW.length
       ·have pj:0≤((j:Nat):Int):=by omega
        have qj:((j:Nat):Int)<(RW.length:Int):=by omega
        have c36:decide ((j:Int)<(RW.length:Int))=true:=Yv qj
        obtain⟨adj,eadj,hs0,hs1⟩:=at_T38 (Kd.V_reads' VR.out).2.2 (j:Int) pj qj
        cases eadj
        simp only[Int.toNat_natCast] at hs0 hs1
        have HZS:=Ya (upJ_succ l F v y j (by rw[← HRW.out];exact hltj))
        have hso:StepOf l (rd_T38 RW (j:Int)):=stL_of (l:=l) (v:=v) (by
         rw[← HRW.out]
         unfold rd_T38
         rw[Int.toNat_natCast,List.getD_eq_getElem?_getD,List.getElem?_eq_getElem hltj]
         exact List.getElem_mem hltj)
        rw[← HRW.out, ← HZ.out] at HZS
        obtain⟨s,hs⟩: ∃ s_,s_=rd_T38 RW (j:Int):=⟨_,rfl⟩
        rw[← hs] at hs0 hs1 HZS hso
        have HSO:=Ya hso
        clear hs hso HZ
        go_wp2_with (first|((with_reducible refine gate_dst (N:=8) rfl ?_);refine Yz ?hg (N:=8) ?hd (cs:= #[.int .i64 0, .bool false]) (t:=38) ?hr ?_;(case hd=>rfl);(case hg=>rfl);(case hr=>first|(go_simp;done)|(go_simp;rfl));intro g8 hg w6 Zf hb;have GE8:Aside0 (wr.heap.size≤g8):=⟨Nat.le_of_eq hg.symm⟩;have B8:=Ya Zf;have HBL:=Ya hb;clear Zf hg hb;have hcz0:w6.cell? ⟨g8,0,none⟩=some (.int .i64 0):=(Yc B8.out 0).trans rfl;have hcz1:w6.cell? ⟨g8,1,none⟩=some (.bool false):=(Yc B8.out 1).trans rfl;have hfz0:=Yf B8.out 0;have hfz1:=Yf B8.out 1)|((with_reducible refine gate_store (t:=38) (p:=8) rfl ?_);refine store_event (t:=38) (p:=8) (v:= ?vo) (w1:=((w6.setCell ⟨g8,0,none⟩ (.int .i64 s.f0)).setCell ⟨g8,1,none⟩ (.bool s.f1))) ?hg ?ho ?hn ?hr ?_;(case ho=>rfl);(case hg=>rfl);(case hn=>rfl);(case hr=>first|(go_simp;done)|(go_simp;rfl));intro w8 hw;have m0_:Aside0 (w8.heap[g8]? =some (.cells #[.int .i64 s.f0, .bool s.f1] 38 (0,0))):=⟨by rw[hw];refine YA (cs:= #[.int .i64 s.f0, .bool false]) ?_ 1 _ rfl;refine YA (cs:= #[.int .i64 0, .bool false]) ?_ 0 _ rfl;exact B8.out⟩;have m1_:Aside0 (Below wr.heap.size wr w8):=⟨by rw[hw];exact Yh (Yh HBL.out GE8.out) GE8.out⟩;clear hw B8 HBL hcz0 hcz1 hfz0 hfz1 hs0 hs1;have B8:=m0_;have HBL:=m1_;clear m0_ m1_)|fail)
        have HG8a:Aside0 (g8≠gd∧g8≠gi∧g8≠gb):=⟨by obtain⟨_,_,_,_,_,_,_,_,_,p1,p2,p3⟩:=HF.out.blocks HOz.out hn0;have:=GE8.out;exact⟨by omega,by omega,by omega⟩⟩
        have m0_:=Ya (HF.out.below HBL.out)
        have m1_:=Ya (Kd.V_below VR.out HBL.out)
        clear HF VR HBL
        have HF:=m0_
        have VR:=m1_
        clear m0_ m1_
        obtain⟨dv,hdv⟩: ∃ d_,d_=z.D.getD v 0:=⟨_,rfl⟩
        obtain⟨tm,htm⟩: ∃ d_,d_=stTime l s:=⟨_,rfl⟩
        obtain⟨u,hu⟩: ∃ u_:Nat,stTo l s=(u_:Int):=⟨(stTo l s).toNat,by have:=stTo_in HR.out HSO.out;omega⟩
        obtain⟨rm,hrm⟩: ∃ d_,d_=stRoom l F s:=⟨_,rfl⟩
        have hun:u<n0:=by have:=stTo_in HR.out HSO.out;omega
        have htb:=stTime_in HR.out HSO.out
        rw[← htm] at htb
        have hdb:=HBD.out v
        rw[← hdv] at hdb
        have hwd:IntKind.i64.wrap (dv+tm)=dv+tm:=by rw[IntKind.wrap_i64];omega
        have HTO:=Ya (to_f HR.out HSO.out (n0:Int) Zb)
        have HTM:=Ya (time_f HR.out HSO.out (n0:Int) Zb)
        have HRM:=Ya (room_f HR.out HSO.out (n0:Int) Zb)
        rw[hu] at HTO
        rw[← htm] at HTM
        rw[← hrm] at HRM
        have hcD:=HF.out.dv hltv
        rw[← hdv] at hcD
        have HVC:Aside0 (visC l F v z s=(decide (0<rm) && (!z.I.getD u false || decide (dv+tm<z.D.getD u 0)))):=⟨by unfold visC;rw[← hrm, ← hdv, ← htm,hu,Int.toNat_natCast]⟩
        have HVO:Aside0 (visC l F v z s=true→visR l F v z s=⟨z.D.set u (dv+tm),z.I.set u true,z.B.set u s,false⟩):=⟨fun h=>by rw[vis_on h, ← hdv, ← htm,hu,Int.toNat_natCast]⟩
        have HBS:Aside0 (Bd (z.D.set u (dv+tm)) (20000 * (r:Int)+400 * (v:Int)+((j+1:Nat):Int))):=⟨by
         have h_:=HBD.out.set (by omega) u v tm htb.1 htb.2
         rw[← hdv] at h_
         exact h_.mono (by omega)⟩
        clear hdb htb hu hrm htm hdv
        have q0: ∀ p:BelowW w8,p.at_.cell? ⟨g2,0,none⟩=some (.int .i64 n0):=fun p=>p.cell ((Yc HF.out.b2 0).trans rfl)
        have q1: ∀ p:BelowW w8,p.at_.cell? ⟨g2,1,none⟩=some (.bool Zb):=fun p=>p.cell ((Yc HF.out.b2 1).trans rfl)
        have q2: ∀ p:BelowW w8,p.at_.cell? ⟨g2,2,none⟩=some (.slice A2 l.length c2):=fun p=>p.cell ((Yc HF.out.b2 2).trans rfl)
        have q3: ∀ p:BelowW w8,p.at_.cell? ⟨g2,3,none⟩=some (.slice A3 F.length c3):=fun p=>p.cell ((Yc HF.out.b2 3).trans rfl)
        have q4: ∀ p:BelowW w8,p.at_.cell? ⟨g8,0,none⟩=some (.int .i64 s.f0):=fun p=>p.cell ((Yc B8.out 0).trans rfl)
        have q5: ∀ p:BelowW w8,p.at_.cell? ⟨g8,1,none⟩=some (.bool s.f1):=fun p=>p.cell ((Yc B8.out 1).trans rfl)
        have q6: ∀ p:BelowW w8,p.at_.cell? ⟨g3,0,none⟩=some (.slice (some ⟨gd,0,none⟩) n0 cd):=fun p=>p.cell ((Yc HF.out.b3 0).trans rfl)
        have q7: ∀ p:BelowW w8,p.at_.cell? ⟨gd,v,none⟩=some (.int .i64 dv):=fun p=>p.cell hcD
        have HCA:Aside0 (∀ p:BelowW w8,Kd.C k74 p.at_ A2 l.length l):=⟨fun p=>Kd.F_now (Kd.F_below HF.out.arcs p.below)⟩
        have HCF:Aside0 (∀ p:BelowW w8,Kd.C (Kd.int .i64) p.at_ A3 F.length F):=⟨fun p=>Kd.F_now (Kd.F_below HF.out.flow p.below)⟩
        clear hcD
        have HG8:Aside0 (g8≠gd∧g8≠gi∧g8≠gb):=⟨HG8a.out⟩
        refine wp_region_quiet_below (by kernel_rfl) (by kernel_rfl) ?_;(repeat(quiet_step ((first|(go_at_call 105;exact calls_below_of (static_Flowing_To.calls (n0:Int) Zb A2 c2 l A3 c3 F s.f0 s.f1 (u:Int) _ (HCA.out _) HC2.out (HCF.out _) HC3.out HTO.out))|(go_at_call 107;exact calls_below_of (static_Flowing_Time.calls (n0:Int) Zb A2 c2 l A3 c3 F s.f0 s.f1 tm _ (HCA.out _) HC2.out (HCF.out _) HC3.out HTM.out))))));refine wpQuiet_nil ?_;intro wq hw';obtain⟨⟨wz,hbq⟩,hwq⟩:=hw';subst hwq
        have m0_:=Ya (HF.out.below hbq)
        have m1_:=Ya (Kd.V_below VR.out hbq)
        have m2_:=Ya (Yn B8.out hbq)
        clear HF VR B8 HCA HCF q0 q1 q2 q3 q4 q5 q6 q7 hbq
        have HF:=m0_
        have VR:=m1_
        have B8:=m2_
        clear m0_ m1_ m2_
        have r0:wq.cell? ⟨g2,0,none⟩=some (.int .i64 n0):=(Yc HF.out.b2 0).trans rfl
        have r1:wq.cell? ⟨g2,1,none⟩=some (.bool Zb):=(Yc HF.out.b2 1).trans rfl
        have r2:wq.cell? ⟨g2,2,none⟩=some (.slice A2 l.length c2):=(Yc HF.out.b2 2).trans rfl
        have r3:wq.cell? ⟨g2,3,none⟩=some (.slice A3 F.length c3):=(Yc HF.out.b2 3).trans rfl
        have r4:wq.cell? ⟨g8,0,none⟩=some (.int .i64 s.f0):=(Yc B8.out 0).trans rfl
        have r5:wq.cell? ⟨g8,1,none⟩=some (.bool s.f1):=(Yc B8.out 1).trans rfl
        have pu:0≤((u:Nat):Int):=by omega
        have qu:((u:Nat):Int)<(n0:Int):=by omega
        by_cases hpos:0<rm
        ·have e57:decide (0<rm)=true:=Yv hpos
         rw[e57,Bool.true_and] at HVC
         cases hIu:z.I.getD u false with
         |false=>
          rw[hIu] at HVC
          have HZN:Aside0 ((⟨z.D.set u (dv+tm),z.I.set u true,z.B.set u s,false⟩:Rch)=upJ l F v y (j+1)):=⟨by rw[HZS.out];exact(HVO.out (by rw[HVC.out];rfl)).symm⟩
          have HIU:=Ya hIu
          clear hIu hpos
          go_wp2_with (first|(go_at_call 104;refine(static_Flowing_Room.calls (n0:Int) Zb A2 c2 l A3 c3 F s.f0 s.f1 rm _ (Kd.F_now HF.out.arcs) HC2.out (Kd.F_now HF.out.flow) HC3.out HRM.out).mono ?_;rintro e_ w21 ⟨rfl,hb⟩;have m0_:=Ya (HF.out.below hb);have m1_:=Ya (Kd.V_below VR.out hb);have m2_:=Ya (Yn B8.out hb);have m3_:Aside0 (g8<w21.heap.size):=⟨Nat.lt_of_lt_of_le (blk_lt B8.out) hb.size⟩;clear HF VR B8 hb r0 r1 r2 r3 r4 r5;have HF:=m0_;have VR:=m1_;have B8:=m2_;clear m0_ m1_ m2_ m3_;have s0:w21.cell? ⟨g3,0,none⟩=some (.slice (some ⟨gd,0,none⟩) n0 cd):=(Yc HF.out.b3 0).trans rfl;have s1:w21.cell? ⟨g3,1,none⟩=some (.slice (some ⟨gi,0,none⟩) n0 ci):=(Yc HF.out.b3 1).trans rfl;have s2:w21.cell? ⟨g3,2,none⟩=some (.slice (some ⟨gb,0,none⟩) n0 cb):=(Yc HF.out.b3 2).trans rfl;have s3:=HF.out.iv hun;have s4:=HF.out.dv hun;rw[HIU.out] at s3)|fail)
          (have s5:w21.cell? ⟨g8,0,none⟩=some (.int .i64 s.f0):=(Yc B8.out 0).trans rfl;have s6:w21.cell? ⟨g8,1,none⟩=some (.bool s.f1):=(Yc B8.out 1).trans rfl;have f0:=(HF.out.free hn0 u).1;have f1:=(HF.out.free hn0 u).2.1;have f2:=(HF.out.free hn0 (u * 2)).2.2;have f3:=(HF.out.free hn0 (u * 2+1)).2.2;obtain⟨t2,t3⟩:=HF.out.bv hun;obtain⟨n1,n2,n3,n4,n5,n6,n7,n8,n9,_,_,_⟩:=HF.out.blocks HOz.out hn0;obtain⟨k1,k2,k3⟩:=HG8.out;go_region;clear s0 s1 s2 s3 s4 s5 s6 f0 f1 f2 f3 t2 t3 n1 n2 n3 n4 n5 n6 n7 n8 n9 k1 k2 k3;have HF2:=Ya ((HF.out.put HOz.out hn0 hun (dv+tm) s).below (below_drew (Yo _ _)));have VR2:Aside0 (Kd.V k38 38 (((((w21.setCell ⟨gd,u,none⟩ (.int .i64 (dv+tm))).setCell ⟨gi,u,none⟩ (.bool true)).setCell ⟨gb,u * 2,none⟩ (.int .i64 s.f0)).setCell ⟨gb,u * 2+1,none⟩ (.bool s.f1)).drew) 0 (okR gd gi gb) (.slice (some adj) RW.length cv) RW):=⟨Kd.V_drew (Kd.V_far (p:=⟨gb,u * 2+1,none⟩) (Kd.V_far (p:=⟨gb,u * 2,none⟩) (Kd.V_far (p:=⟨gi,u,none⟩) (Kd.V_far (p:=⟨gd,u,none⟩) VR.out (fun _ hk=>hk.1) _) (fun _ hk=>hk.2.1) _) (fun _ hk=>hk.2.2) _) (fun _ hk=>hk.2.2) _)⟩;clear HF VR B8;have HOn:Aside0 (Rch.Ok n0 ⟨z.D.set u (dv+tm),z.I.set u true,z.B.set u s,false⟩):=⟨⟨by simp[HOz.out.hD],by simp[HOz.out.hI],by simp[HOz.out.hB]⟩⟩;have HIVn:Aside0 ((z.I.set u true).getD v false=true):=⟨set_true _ _ _ HIV.out⟩;generalize ((((w21.setCell ⟨gd,u,none⟩ (.int .i64 (dv+tm))).setCell ⟨gi,u,none⟩ (.bool true)).setCell ⟨gb,u * 2,none⟩ (.int .i64 s.f0)).setCell ⟨gb,u * 2+1,none⟩ (.bool s.f1)).drew=w30 at HF2 VR2 ⊢;go_wp2_with fail;go_roundw;(case rel=>exact⟨j+1,by omega,by first|rfl|go_num,(⟨z.D.set u (dv+tm),z.I.set u true,z.B.set u s,false⟩:Rch),rfl,HZN,HOn,HBS,HIVn,HF2,VR2⟩);(case measure=>simp[intOf]<;>omega))
         |true=>
          rw[hIu,Bool.not_true,Bool.false_or] at HVC
          have HIU:=Ya hIu
          clear hIu hpos
          by_cases hlt2:dv+tm<z.D.getD u 0
          ·have e72:decide (dv+tm<z.D.getD u 0)=true:=Yv hlt2
           have HZN:Aside0 ((⟨z.D.set u (dv+tm),z.I.set u true,z.B.set u s,false⟩:Rch)=upJ l F v y (j+1)):=⟨by rw[HZS.out];exact(HVO.out (by rw[HVC.out];exact e72)).symm⟩
           obtain⟨du,hdu⟩: ∃ d_,d_=z.D.getD u 0:=⟨_,rfl⟩
           rw[← hdu] at e72 hlt2
           have HDU:=Ya hdu
           clear hdu hlt2
           go_wp2_with (first|(go_at_call 104;refine(static_Flowing_Room.calls (n0:Int) Zb A2 c2 l A3 c3 F s.f0 s.f1 rm _ (Kd.F_now HF.out.arcs) HC2.out (Kd.F_now HF.out.flow) HC3.out HRM.out).mono ?_;rintro e_ w21 ⟨rfl,hb⟩;have m0_:=Ya (HF.out.below hb);have m1_:=Ya (Kd.V_below VR.out hb);have m2_:=Ya (Yn B8.out hb);have m3_:Aside0 (g8<w21.heap.size):=⟨Nat.lt_of_lt_of_le (blk_lt B8.out) hb.size⟩;clear HF VR B8 hb r0 r1 r2 r3 r4 r5;have HF:=m0_;have VR:=m1_;have B8:=m2_;clear m0_ m1_ m2_ m3_;have s0:w21.cell? ⟨g3,0,none⟩=some (.slice (some ⟨gd,0,none⟩) n0 cd):=(Yc HF.out.b3 0).trans rfl;have s1:w21.cell? ⟨g3,1,none⟩=some (.slice (some ⟨gi,0,none⟩) n0 ci):=(Yc HF.out.b3 1).trans rfl;have s2:w21.cell? ⟨g3,2,none⟩=some (.slice (some ⟨gb,0,none⟩) n0 cb):=(Yc HF.out.b3 2).trans rfl;have s3:=HF.out.iv hun;have s4:=HF.out.dv hun;rw[HIU.out] at s3;rw[← HDU.out] at s4)|fail)
           (have s5:w21.cell? ⟨g8,0,none⟩=some (.int .i64 s.f0):=(Yc B8.out 0).trans rfl;have s6:w21.cell? ⟨g8,1,none⟩=some (.bool s.f1):=(Yc B8.out 1).trans rfl;have f0:=(HF.out.free hn0 u).1;have f1:=(HF.out.free hn0 u).2.1;have f2:=(HF.out.free hn0 (u * 2)).2.2;have f3:=(HF.out.free hn0 (u * 2+1)).2.2;obtain⟨t2,t3⟩:=HF.out.bv hun;obtain⟨n1,n2,n3,n4,n5,n6,n7,n8,n9,_,_,_⟩:=HF.out.blocks HOz.out hn0;obtain⟨k1,k2,k3⟩:=HG8.out;go_region;clear s0 s1 s2 s3 s4 s5 s6 f0 f1 f2 f3 t2 t3 n1 n2 n3 n4 n5 n6 n7 n8 n9 k1 k2 k3;have HF2:=Ya ((HF.out.put HOz.out hn0 hun (dv+tm) s).below (below_drew (Yo _ _)));have VR2:Aside0 (Kd.V k38 38 (((((w21.setCell ⟨gd,u,none⟩ (.int .i64 (dv+tm))).setCell ⟨gi,u,none⟩ (.bool true)).setCell ⟨gb,u * 2,none⟩ (.int .i64 s.f0)).setCell ⟨gb,u * 2+1,none⟩ (.bool s.f1)).drew) 0 (okR gd gi gb) (.slice (some adj) RW.length cv) RW):=⟨Kd.V_drew (Kd.V_far (p:=⟨gb,u * 2+1,none⟩) (Kd.V_far (p:=⟨gb,u * 2,none⟩) (Kd.V_far (p:=⟨gi,u,none⟩) (Kd.V_far (p:=⟨gd,u,none⟩) VR.out (fun _ hk=>hk.1) _) (fun _ hk=>hk.2.1) _) (fun _ hk=>hk.2.2) _) (fun _ hk=>hk.2.2) _)⟩;clear HF VR B8;have HOn:Aside0 (Rch.Ok n0 ⟨z.D.set u (dv+tm),z.I.set u true,z.B.set u s,false⟩):=⟨⟨by simp[HOz.out.hD],by simp[HOz.out.hI],by simp[HOz.out.hB]⟩⟩;have HIVn:Aside0 ((z.I.set u true).getD v false=true):=⟨set_true _ _ _ HIV.out⟩;generalize ((((w21.setCell ⟨gd,u,none⟩ (.int .i64 (dv+tm))).setCell ⟨gi,u,none⟩ (.bool true)).setCell ⟨gb,u * 2,none⟩ (.int .i64 s.f0)).setCell ⟨gb,u * 2+1,none⟩ (.bool s.f1)).drew=w30 at HF2 VR2 ⊢;go_wp2_with fail;go_roundw;(case rel=>exact⟨j+1,by omega,by first|rfl|go_num,(⟨z.D.set u (dv+tm),z.I.set u true,z.B.set u s,false⟩:Rch),rfl,HZN,HOn,HBS,HIVn,HF2,VR2⟩);(case measure=>simp[intOf]<;>omega))
          ·have e72:decide (dv+tm<z.D.getD u 0)=false:=Yw hlt2
           have HZN:Aside0 (z=upJ l F v y (j+1)):=⟨by rw[HZS.out];exact(vis_off (by rw[HVC.out];exact e72)).symm⟩
           obtain⟨du,hdu⟩: ∃ d_,d_=z.D.getD u 0:=⟨_,rfl⟩
           rw[← hdu] at e72 hlt2
           have HDU:=Ya hdu
           clear hdu hlt2
           go_wp2_with (first|(go_at_call 104;refine(static_Flowing_Room.calls (n0:Int) Zb A2 c2 l A3 c3 F s.f0 s.f1 rm _ (Kd.F_now HF.out.arcs) HC2.out (Kd.F_now HF.out.flow) HC3.out HRM.out).mono ?_;rintro e_ w21 ⟨rfl,hb⟩;have m0_:=Ya (HF.out.below hb);have m1_:=Ya (Kd.V_below VR.out hb);have m2_:=Ya (Yn B8.out hb);have m3_:Aside0 (g8<w21.heap.size):=⟨Nat.lt_of_lt_of_le (blk_lt B8.out) hb.size⟩;clear HF VR B8 hb r0 r1 r2 r3 r4 r5;have HF:=m0_;have VR:=m1_;have B8:=m2_;clear m0_ m1_ m2_ m3_;have s0:w21.cell? ⟨g3,0,none⟩=some (.slice (some ⟨gd,0,none⟩) n0 cd):=(Yc HF.out.b3 0).trans rfl;have s1:w21.cell? ⟨g3,1,none⟩=some (.slice (some ⟨gi,0,none⟩) n0 ci):=(Yc HF.out.b3 1).trans rfl;have s2:w21.cell? ⟨g3,2,none⟩=some (.slice (some ⟨gb,0,none⟩) n0 cb):=(Yc HF.out.b3 2).trans rfl;have s3:=HF.out.iv hun;have s4:=HF.out.dv hun;rw[HIU.out] at s3;rw[← HDU.out] at s4)|fail)
           go_roundw
           case rel=>exact⟨j+1,by omega,by first|rfl|go_num,z,rfl,HZN,HOz,⟨HBD.out.mono (by omega)⟩,HIV,HF,VR⟩
           case measure=>simp[intOf]<;>omega
        ·have e57:decide (0<rm)=false:=Yw hpos
         rw[e57,Bool.false_and] at HVC
         have HZN:Aside0 (z=upJ l F v y (j+1)):=⟨by rw[HZS.out];exact(vis_off HVC.out).symm⟩
         clear hpos
         go_wp2_with (first|(go_at_call 104;refine(static_Flowing_Room.calls (n0:Int) Zb A2 c2 l A3 c3 F s.f0 s.f1 rm _ (Kd.F_now HF.out.arcs) HC2.out (Kd.F_now HF.out.flow) HC3.out HRM.out).mono ?_;rintro e_ w21 ⟨rfl,hb⟩;have m0_:=Ya (HF.out.below hb);have m1_:=Ya (Kd.V_below VR.out hb);have m2_:=Ya (Yn B8.out hb);have m3_:Aside0 (g8<w21.heap.size):=⟨Nat.lt_of_lt_of_le (blk_lt B8.out) hb.size⟩;clear HF VR B8 hb r0 r1 r2 r3 r4 r5;have HF:=m0_;have VR:=m1_;have B8:=m2_;clear m0_ m1_ m2_ m3_;have s0:w21.cell? ⟨g3,0,none⟩=some (.slice (some ⟨gd,0,none⟩) n0 cd):=(Yc HF.out.b3 0).trans rfl;have s1:w21.cell? ⟨g3,1,none⟩=some (.slice (some ⟨gi,0,none⟩) n0 ci):=(Yc HF.out.b3 1).trans rfl;have s2:w21.cell? ⟨g3,2,none⟩=some (.slice (some ⟨gb,0,none⟩) n0 cb):=(Yc HF.out.b3 2).trans rfl;have s3:=HF.out.iv hun;have s4:=HF.out.dv hun;skip)|fail)
         go_roundw
         case rel=>exact⟨j+1,by omega,by first|rfl|go_num,z,rfl,HZN,HOz,⟨HBD.out.mono (by omega)⟩,HIV,HF,VR⟩
         case measure=>simp[intOf]<;>omega
       ·have ej:j=RW.length:=by omega
        subst ej
        have c36:decide ((RW.length:Int)<(RW.length:Int))=false:=Yw (by omega)
        have HYS:Aside0 (z=upV l F x1 (v+1)):=⟨by rw[upV_succ, ← HY.out,HZ.out,HRW.out];exact upJ_all l F v y HIVy.out⟩
        go_wp2_with fail
        go_roundw
        case rel=>exact⟨v+1,by omega,by first|rfl|go_num,z,rfl,HYS,HOz,⟨HBD.out.mono (by omega)⟩,HF⟩
        case measure=>simp[intOf]<;>omega
    ·have ev:n0=v:=by omega
     subst ev
     have c23:decide ((n0:Int)<(n0:Int))=false:=Yw (by omega)
     have HRD:Aside0 (roundR l F n0 x1=y):=⟨HY.out.symm⟩
     have hk:n0+1 - r=(n0 - r)+1:=by omega
     rw[hk] at HG1
     clear hk
     cases hst:y.still with
     |true=>
      have HG2:Aside0 (XT=(y,true)):=⟨by rw[← HG1.out];exact goes_end HRD.out hst⟩
      clear hst
      go_wp2_with fail
      rw[Exit.noGoto_ret]
      go_ret
      rw[HG2.out]
      exact⟨rfl,HF.out.kp,HF.out.D,HF.out.I,HF.out.B⟩
     |false=>
      have HG2:Aside0 (goesR l F n0 (n0+1 - (r+1)) y=XT):=⟨by rw[show n0+1 - (r+1)=n0 - r by omega, ← HG1.out];exact(goes_step HRD.out hst).symm⟩
      clear hst
      go_wp2_with fail
      go_roundw
      case rel=>exact⟨r+1,by omega,by first|rfl|go_num,y,HO,⟨HBD.out.mono (by omega)⟩,HG2,HF⟩
      case measure=>simp[intOf]<;>omega
  ·have er:r=n0+1:=by omega
   subst er
   have c17:decide (((n0+1:Nat):Int)<(n0:Int)+1)=false:=Yw (by omega)
   have HG2:Aside0 (XT=(x1,false)):=⟨by have:=HG1.out;rw[Nat.sub_self] at this;exact this.symm⟩
   go_wp2_with fail
   rw[Exit.noGoto_ret]
   go_ret
   rw[HG2.out]
   exact⟨rfl,HF.out.kp,HF.out.D,HF.out.I,HF.out.B⟩
end H
namespace H
open P
set_option maxHeartbeats 1000000 in
set_option maxRecDepth 100000 in
theorem insertion_nil (A:Option Addr) (cap:Nat) (f:Value) (w:World):
  Calls Try.prog 169 #[.slice A 0 cap, .int .i64 0, .int .i64 0,f] w fun e w'=>e= .returned (.tuple #[])∧w'=w:=by
 go_enter Try.func169,Try.ntmps169
 go_wp2
 go_loopw [8] (fun i wr=>i= .int .i64 1∧Aside0 (wr=w)) (fun i _=>0)
 case atStart=>exact⟨by go_num,⟨rfl⟩⟩
 case round=>
  obtain⟨rfl,HW⟩:=hrel
  go_wp2
  go_end0
  exact⟨rfl,HW.out⟩
set_option maxHeartbeats 1000000 in
set_option maxRecDepth 100000 in
theorem stable_nil (A:Option Addr) (cap:Nat) (f:Value) (w:World):
  Calls Try.prog 162 #[.slice A 0 cap, .int .i64 0,f] w fun e w'=>e= .returned (.tuple #[])∧w'=w:=by
 go_enter Try.func162,Try.ntmps162
 go_wp2_with fail
 go_loopw [7,8] (fun va vb wr=>va= .int .i64 0∧vb= .int .i64 20∧Aside0 (wr=w)) (fun va _ _=>0)
 case atStart=>exact⟨by go_num,by go_num,⟨rfl⟩⟩
 case round=>
  obtain⟨rfl,rfl,HW⟩:=hrel
  go_wp2_with fail
  refine(insertion_nil A cap f _).mono ?_
  rintro e1 w1 ⟨rfl,rfl⟩
  go_wp2_with fail
  go_loopw [6] (fun vs wr=>vs= .int .i64 20∧Aside0 (wr=w)) (fun vs _=>0)
  case atStart=>exact⟨by go_num,HW⟩
  case round=>
   clear HW
   obtain⟨rfl,HW⟩:=hrel
   go_wp2_with fail
   go_end0
   exact⟨rfl,HW.out⟩
theorem sortStable_nil (A:Option Addr) (cap:Nat) (f:Value) (w:World):
  Calls Try.prog 143 #[.slice A 0 cap,f] w fun e w'=>e= .returned (.tuple #[])∧w'=w:=by
 go_enter Try.func143,Try.ntmps143
 go_wp2_with fail
 refine(stable_nil A cap f w).mono ?_
 rintro e1 w1 ⟨rfl,rfl⟩
 go_wp2_with fail
 go_end0
 exact⟨rfl,rfl⟩
end H
namespace H
open P
theorem stL_nil {l:List S74} {n:Nat} {v:Int} (hv0:0≤v) (hv:v<n) (hE:ends l n) (h:stepsU l n v=[]):stL l v l.length=[]:=by
 refine List.eq_nil_iff_forall_not_mem.2 fun s hs=> ?_
 have:=(mem_stepsU l n v hv0 hv hE s).2 ((mem_stL l v l.length s).1 hs)
 rw[h] at this
 cases this
theorem row_step (P:List S38) (L:List Int) (b:Bool) (j:Nat) (hj:j<L.length):P ++ (L.take (j+1)).map (fun i=>(⟨i,b⟩:S38))=(P ++ (L.take j).map (fun i=>(⟨i,b⟩:S38))) ++ [⟨rd L (j:Int),b⟩]:=by
 have e:L.take (j+1)=L.take j ++ [rd L (j:Int)]:=by
  rw[List.take_add_one,List.getElem?_eq_getElem hj]
  show _ ++ [L[j]]=_ ++ [L.getD (j:Int).toNat 0]
  rw[Int.toNat_natCast,List.getD_eq_getElem?_getD,List.getElem?_eq_getElem hj]
  rfl
 rw[e,List.map_append,List.append_assoc]
 rfl
theorem sort_row {w:World} {base go n co k N:Nat} {l:List S74} {X:List (List S38)} {oki:Nat→Prop} {A:Option Addr} {cr:Nat} {RW:List S38}
  (hH:Kd.H (Kd.slice 38 k38) 34 w base (fun _=>True) (.slice (some ⟨go,0,none⟩) n co) X (k:Int) oki [.slice A RW.length cr])
  (hR:Kd.R k38 38 w base oki (.slice A RW.length cr) RW) (hRW:RW=stepsU l N (k:Int)) (hk:k<N) (hE:ends l N) (hl:l.length≤1000000) (hlen:RW.length≤1000000):
  Calls Try.prog 143 #[.slice A RW.length cr, .func (.func 144) #[] #[]] w fun e w'=>e= .returned (.tuple #[])∧
   ∃ v:Value,w.grownBy w' v.ownBlock∧(∀ g,v.ownBlock=some g→base≤g∧ ∃ cells,w.heap[g]? =some (.cells cells 38 (0,0)))∧Kd.S (Kd.slice 38 k38) 34 w' base (fun _=>True) (.slice (some ⟨go,0,none⟩) n co) (X.set k (stL l k l.length)):=by
 have hk0:0≤(k:Int):=by omega
 have hkn:(k:Int)<N:=by omega
 by_cases hp:0<RW.length
 ·obtain⟨g,cap,e,hb,_,cells,hcl⟩:=Kd.R_form hR hp
  injection e with e1 _ e3
  subst e1
  subst e3
  have hA:=arr_of_R hR hp
  refine(sortStable_calls g RW.length cr (fun i=>RW.getD i z38) w hA hlen ?_ ?_).mono ?_
  ·rw[hRW];exact stab_of_list (stab_stepsU l N (k:Int) hk0 hkn hE)
  ·rw[hRW];exact small_steps hk0 hkn hE hl
  ·rintro e w' ⟨rfl,⟨K,hK,hs⟩,hf⟩
   refine⟨rfl, .slice (some ⟨g,0,none⟩) RW.length cr,hf.1,fun g' hg'=> ?_,?_⟩
   ·have:g=g':=by simpa [Value.ownBlock] using hg'
    subst this
    exact⟨hb,cells,hcl⟩
   ·have hoki:oki g:=hR.1 g rfl
    have hR':=R_of_arr hR rfl hp hK hf hoki
    have hst:(List.range RW.length).map K=stL l k l.length:=by rw[hRW] at hs ⊢;exact sorted_is hk0 hkn hE hs
    rw[hst] at hR'
    have hS:=Kd.H_back (Kd.H_grown hH hf.1 (fun q hq=>by injection hq with hq;subst hq;exact hoki)) (x':=stL l k l.length) ⟨_,rfl,hR'⟩ (fun _ hk=>hk)
    rw[Int.toNat_natCast] at hS
    exact hS
 ·have h0:RW=[]:=List.eq_nil_of_length_eq_zero (by omega)
  have hst:stL l k l.length=[]:=stL_nil hk0 hkn hE (by rw[← hRW];exact h0)
  subst h0
  refine(sortStable_nil A cr _ w).mono ?_
  rintro e w' ⟨rfl,rfl⟩
  refine⟨rfl, .slice none 0 0,World.grownBy.refl _ _,fun g' hg'=>by simp[Value.ownBlock] at hg',?_⟩
  rw[hst]
  have hS:=Kd.H_back hH (x':=([]:List S38)) ⟨_,rfl,hR⟩ (fun _ hk=>hk)
  rw[Int.toNat_natCast] at hS
  exact hS
end H
namespace H
open Go.RowKit Go.Proofs.YtkcpanpdipmmmaaW.PrintWords Go.Proofs.YtkcpanpdipmmmaaW.PrintLast Go.Proofs.YtkcpanpdipmmmaaW.PrintMore P
theorem infoRowS:(Try.prog.info? 34).map (fun i=>(i.zero,i.size,i.bytes))=some (some (.slice none 0 0),1,24):=by kernel_rfl
set_option maxHeartbeats 2000000 in
set_option maxRecDepth 100000 in
theorem at_calls (n0:Nat) (a0_1:Bool) (A0_2:Option Addr) (c0_2:Nat) (l0_2:List S74) (A1:Option Addr) (c1 n1:Nat) (w:World) (hr0_2:Kd.C k74 w A0_2 l0_2.length l0_2) (hc0_2:l0_2.length≤c0_2) (h0:0≤(n0:Int)) (h1:(n0:Int)≤1000000) (hl:l0_2.length≤500000) (hE0: ∀ k:Nat,k<l0_2.length→0≤eFrom (rd_T74 l0_2 k)∧eFrom (rd_T74 l0_2 k)<(n0:Int)) (hE1: ∀ k:Nat,k<l0_2.length→0≤eTo (rd_T74 l0_2 k)∧eTo (rd_T74 l0_2 k)<(n0:Int)):
  Calls Try.prog 101 #[.agg #[.int .i64 (n0:Int), .bool a0_1, .slice A0_2 l0_2.length c0_2], .slice A1 n1 c1] w fun e w'=> ∃ v0_:Value,e= .returned (.agg #[.int .i64 (n0:Int), .bool a0_1, .slice A0_2 l0_2.length c0_2, .slice A1 n1 c1,v0_])∧Kd.S (Kd.slice 38 k38) 34 w' w.heap.size (fun _=>True) v0_ (rowsAt l0_2 n0 n0)∧Below w.heap.size w w':=by
 have hu24:=Try.underlying24
 have hu118:=Try.underlying118
 have HR0_2:=Aside0.mk hr0_2
 have HC0_2:=Aside0.mk hc0_2
 have HH0:=Aside0.mk h0
 have HH1:=Aside0.mk h1
 have HE0:=Aside0.mk hE0
 have HE1:=Aside0.mk hE1
 have HR0:=Aside0.mk hr0_2
 clear hr0_2 hc0_2 h0 h1 hE0 hE1
 have HB:=Aside0.mk (Below.refl w.heap.size w)
 go_enter Try.func101,Try.ntmps101
 go_wp2_with (first|((with_reducible refine gate_dst (N:=2) rfl ?_);refine box_event ?hg (N:=2) ?hd (cs:= #[.int .i64 (n0:Int), .bool a0_1, .slice A0_2 l0_2.length c0_2]) (t:=24) ?hr ?_;(case hd=>rfl);(case hg=>rfl);(case hr=>first|(go_simp;done)|(go_simp;rfl));intro gb111 hg w4 hbox hb;have n0_:=Aside0.mk (below_step (by repeat(first|(with_reducible first|exact HB.out|apply below_alloc|apply pw_below_drewN|apply below_drew1)|exact HB.out)) hb);have n1_:=Aside0.mk (hbox);have n2_:=Aside0.mk (Kd.C_below HR0_2.out hb);clear HB HR0_2;have HB:=n0_;have BK111:=n1_;have HR0_2:=n2_;clear n0_ n1_ n2_;clear hb hbox hg)|((with_reducible refine gate_dst (N:=4) rfl ?_);refine box_event ?hg (N:=4) ?hd (cs:= #[.int .i64 0, .bool false, .slice none 0 0, .slice none 0 0, .slice none 0 0]) (t:=118) ?hr ?_;(case hd=>rfl);(case hg=>rfl);(case hr=>first|(go_simp;done)|(go_simp;rfl));intro gb4 hg w5 hbox hb;have GE4:Aside0 (w.heap.size≤gb4):=⟨by rw[hg];exact HB.out.size⟩;have n0_:=Aside0.mk (below_step (by repeat(first|(with_reducible first|exact HB.out|apply below_alloc|apply pw_below_drewN|apply below_drew1)|exact HB.out)) hb);have n1_:=Aside0.mk (hbox);have n2_:=Aside0.mk (Kd.C_below HR0_2.out hb);have n3_:=Aside0.mk (blk_below BK111.out hb);clear HB HR0_2 BK111;have HB:=n0_;have BK4:=n1_;have HR0_2:=n2_;have BK111:=n3_;clear n0_ n1_ n2_ n3_;clear hb hbox hg)|fail)
 obtain⟨R0,hR0⟩: ∃ y_:List (List S38),y_=List.replicate (n0:Int).toNat []:=⟨_,rfl⟩
 have NR0:=Aside0.mk hR0
 clear hR0
 refine start_ (n:=9) (S:=(fun w'=>w'.cell? ⟨gb111,0,none⟩=some (.int .i64 (n0:Int))∧w'.cell? ⟨gb111,1,none⟩=some (.bool a0_1)∧w'.cell? ⟨gb111,2,none⟩=some (.slice A0_2 l0_2.length c0_2))) (ds:=[]) #[false,false,false,false,false,false,false,false,false] (by kernel_rfl) rfl rfl ⟨(blk_cell BK111.out 0).trans rfl,(blk_cell BK111.out 1).trans rfl,(blk_cell BK111.out 2).trans rfl⟩ (fun hHeld=> ?_)
 have n0_:=Aside0.mk (below_drew HB.out)
 have n1_:Aside0 (w5.drew.heap[gb111]? =some (.cells #[.int .i64 (n0:Int), .bool a0_1, .slice A0_2 l0_2.length c0_2] 24 (0,0))):=⟨BK111.out⟩
 have n2_:Aside0 (w5.drew.heap[gb4]? =some (.cells #[.int .i64 0, .bool false, .slice none 0 0, .slice none 0 0, .slice none 0 0] 118 (0,0))):=⟨BK4.out⟩
 clear HB BK111 BK4
 have HB:=n0_
 have BK111:=n1_
 have BK4:=n2_
 clear n0_ n1_ n2_
 generalize w5.drew=w6 at BK111 HB BK4 hHeld ⊢
 refine pure_ (i:=1) (N:=some 14) (v:= ?_) (a':= ?_) #[false,true,false,false,false,false,false,false,false] rfl rfl (by kernel_rfl) (fun _ _ _ h=>h) (Or.inl ⟨by rfl,?_⟩) ?_ ?_
 rotate_left
 ·intro w'
  go_simp
  with_reducible rfl
 rotate_left
 ·simp only[Act.put,List.setIfInBounds_toArray,List.set_cons_zero,List.set_cons_succ,i64_w,i32_w]
  rfl
 refine pure_ (i:=3) (N:=some 16) (v:= ?_) (a':= ?_) #[false,true,false,true,false,false,false,false,false] rfl rfl (by kernel_rfl) (fun _ _ _ h=>h) (Or.inl ⟨by rfl,?_⟩) ?_ ?_
 rotate_left
 ·intro w'
  go_simp
  with_reducible rfl
 rotate_left
 ·simp only[Act.put,List.setIfInBounds_toArray,List.set_cons_zero,List.set_cons_succ,i64_w,i32_w]
  rfl
 refine take_ (i:=0) (N:=some 13) (v:= ?_) (a':= ?_) #[true,true,false,true,false,false,false,false,false] rfl rfl (by kernel_rfl) (fun _ _ _ h=>h) (Or.inl ⟨by rfl,?_⟩) hHeld ?_ ?_
 rotate_left
 ·rintro w' ⟨s0,s1,s2⟩
  go_simp
  with_reducible rfl
 rotate_left
 ·simp only[Act.put,List.setIfInBounds_toArray,List.set_cons_zero,List.set_cons_succ,i64_w,i32_w]
  rfl
 refine take_ (i:=4) (N:=some 17) (v:= ?_) (a':= ?_) #[true,true,false,true,true,false,false,false,false] rfl rfl (by kernel_rfl) (fun _ _ _ h=>h) (Or.inl ⟨by rfl,?_⟩) hHeld ?_ ?_
 rotate_left
 ·rintro w' ⟨s0,s1,s2⟩
  go_simp
  with_reducible rfl
 rotate_left
 ·simp only[Act.put,List.setIfInBounds_toArray,List.set_cons_zero,List.set_cons_succ,i64_w,i32_w]
  rfl
 refine pure_ (i:=2) (N:=some 15) (v:= ?_) (a':= ?_) #[true,true,true,true,true,false,false,false,false] rfl rfl (by kernel_rfl) (fun _ _ _ h=>h) (Or.inl ⟨by rfl,?_⟩) ?_ ?_
 rotate_left
 ·intro w'
  go_simp
  with_reducible rfl
 rotate_left
 ·simp only[Act.put,List.setIfInBounds_toArray,List.set_cons_zero,List.set_cons_succ,i64_w,i32_w]
  rfl
 refine join_ (σ:=Value × Nat) 1 #[true,true,true,true,true,true,true,true,false] (fun s_=>[(18,s_.1),(19, .agg #[.int .i64 (n0:Int), .bool a0_1, .slice A0_2 l0_2.length c0_2, .slice A1 n1 c1,s_.1]),(5, .pointer (some ⟨s_.2,0,none⟩))]) (fun s_ w'=>(w'.cell? ⟨gb111,0,none⟩=some (.int .i64 (n0:Int))∧w'.cell? ⟨gb111,1,none⟩=some (.bool a0_1)∧w'.cell? ⟨gb111,2,none⟩=some (.slice A0_2 l0_2.length c0_2))∧Kd.S (Kd.slice 38 k38) 34 w' w.heap.size (fun _=>True) s_.1 R0∧w'.heap[gb111]? =some (.cells #[.int .i64 (n0:Int), .bool a0_1, .slice A0_2 l0_2.length c0_2] 24 (0,0))∧w'.heap[s_.2]? =some (.cells #[.int .i64 0, .bool false, .slice none 0 0, .slice none 0 0, .slice none 0 0] 118 (0,0))∧w'.heap[gb4]? =some (.cells #[.int .i64 0, .bool false, .slice none 0 0, .slice none 0 0, .slice none 0 0] 118 (0,0))∧w.heap.size≤s_.2∧gb111≠s_.2∧gb4≠s_.2∧Below w.heap.size w w') ?_ ?_
 rotate_left
 ·intro hCont
  refine two_ (i:=5) (j:=7) (Ni:=some 18) (Nj:=some 5) #[true,true,true,true,true,true,false,false,false] #[true,true,true,true,true,false,false,true,false] rfl rfl rfl rfl (by kernel_rfl) (by decide) (by decide) (fun K hK=> ?_) (fun K hK=> ?_)
  ·skip
   refine Kd.S_make_step (Kd.slice 38 k38) _ 34 (by rfl) (N:=18) rfl 116 _ _ rfl (n0:Int) rfl rfl Try.underlying116 (.slice none 0 0) 24 infoRowS rfl (by decide) (by omega) [] (ok:=fun _=>True) (okp:=fun _=>True) ⟨_,rfl,Kd.R_nil _ _ _ _ _⟩ (fun _ hk=>hk) trivial HH0.out (by have:=HH1.out;omega) (Below.refl _ _) (Nat.le_refl _) ?_
   intro v18 w7 ho hb _ _
   rw[← NR0.out] at ho
   obtain⟨Ao,co,eo⟩:=Kd.S_slice ho
   subst eo
   have n0_:=Aside0.mk (Kd.S_lower ho HB.out.size)
   have n1_:=Aside0.mk (blk_below BK111.out hb)
   have n2_:=Aside0.mk (blk_below BK4.out hb)
   have n3_:=Aside0.mk (below_step HB.out hb)
   clear BK111 BK4 HB ho hb
   have HO:=n0_
   have BK111:=n1_
   have BK4:=n2_
   have HB:=n3_
   clear n0_ n1_ n2_ n3_
   refine hK.out _ _ ⟨(blk_cell BK111.out 0).trans rfl,(blk_cell BK111.out 1).trans rfl,(blk_cell BK111.out 2).trans rfl⟩ (fun hHeld=> ?_)
   clear hK K
   refine norm_ (a':= ?_) ?_ ?_
   rotate_left
   ·show Act.put _ (some 18) _=_
    simp only[Act.put,List.setIfInBounds_toArray,List.set_cons_zero,List.set_cons_succ,i64_w,i32_w]
    rfl
   refine pure_ (i:=6) (N:=some 19) (v:= ?_) (a':= ?_) #[true,true,true,true,true,true,true,false,false] rfl rfl (by kernel_rfl) (fun _ _ _ h=>h) (Or.inl ⟨by rfl,?_⟩) ?_ ?_
   rotate_left
   ·intro w'
    go_simp
    with_reducible rfl
   rotate_left
   ·simp only[Act.put,List.setIfInBounds_toArray,List.set_cons_zero,List.set_cons_succ,i64_w,i32_w]
    rfl
   refine one_ (i:=7) (N:=some 5) #[true,true,true,true,true,true,true,true,false] rfl rfl (by kernel_rfl) (by decide) (fun K hK=> ?_)
   refine box_step ?hg (N:=5) ?hd (cs:= #[.int .i64 0, .bool false, .slice none 0 0, .slice none 0 0, .slice none 0 0]) (t:=118) ?hr ?_;(case hd=>rfl);(case hg=>rfl);(case hr=>first|(go_simp;done)|(go_simp;rfl))
   intro gb5 hg w8 hbox hb
   have n0_:=Aside0.mk hbox
   have n1_:=Aside0.mk (blk_below BK111.out hb)
   have n2_:=Aside0.mk (blk_below BK4.out hb)
   have n3_:=Aside0.mk (below_step HB.out hb)
   have n5_:Aside0 (w.heap.size≤gb5):=⟨by rw[hg];exact HB.out.size⟩
   have n6_:Aside0 (gb111≠gb5):=⟨by rw[hg];exact Nat.ne_of_lt (blk_lt BK111.out)⟩
   have n7_:Aside0 (gb4≠gb5):=⟨by rw[hg];exact Nat.ne_of_lt (blk_lt BK4.out)⟩
   have n4_:=Aside0.mk (Kd.S_below HO.out hb)
   clear HO
   have HO:=n4_
   clear n4_
   clear BK111 BK4 HB hbox hb hg
   have BK5:=n0_
   have BK111:=n1_
   have BK4:=n2_
   have HB:=n3_
   have GE5:=n5_
   have NB111:=n6_
   have NB4:=n7_
   clear n0_ n1_ n2_ n3_ n5_ n6_ n7_
   refine hK.out _ _ ⟨(blk_cell BK111.out 0).trans rfl,(blk_cell BK111.out 1).trans rfl,(blk_cell BK111.out 2).trans rfl⟩ (fun hHeld=> ?_)
   clear hK K
   refine norm_ (a':= ?_) ?_ ?_
   rotate_left
   ·show Act.put _ (some 5) _=_
    simp only[Act.put,List.setIfInBounds_toArray,List.set_cons_zero,List.set_cons_succ,i64_w,i32_w]
    rfl
   exact norm_ (by(simp only[putAll,Act.put,List.setIfInBounds_toArray,List.set_cons_zero,List.set_cons_succ])<;>rfl) (hCont (.slice Ao R0.length co,gb5) _ ⟨hHeld,HO.out,BK111.out,BK5.out,BK4.out,GE5.out,NB111.out,NB4.out,HB.out⟩)
  ·skip
   refine box_step ?hg (N:=5) ?hd (cs:= #[.int .i64 0, .bool false, .slice none 0 0, .slice none 0 0, .slice none 0 0]) (t:=118) ?hr ?_;(case hd=>rfl);(case hg=>rfl);(case hr=>first|(go_simp;done)|(go_simp;rfl))
   intro gb5 hg w7 hbox hb
   have n0_:=Aside0.mk hbox
   have n1_:=Aside0.mk (blk_below BK111.out hb)
   have n2_:=Aside0.mk (blk_below BK4.out hb)
   have n3_:=Aside0.mk (below_step HB.out hb)
   have n5_:Aside0 (w.heap.size≤gb5):=⟨by rw[hg];exact HB.out.size⟩
   have n6_:Aside0 (gb111≠gb5):=⟨by rw[hg];exact Nat.ne_of_lt (blk_lt BK111.out)⟩
   have n7_:Aside0 (gb4≠gb5):=⟨by rw[hg];exact Nat.ne_of_lt (blk_lt BK4.out)⟩
   clear BK111 BK4 HB hbox hb hg
   have BK5:=n0_
   have BK111:=n1_
   have BK4:=n2_
   have HB:=n3_
   have GE5:=n5_
   have NB111:=n6_
   have NB4:=n7_
   clear n0_ n1_ n2_ n3_ n5_ n6_ n7_
   refine hK.out _ _ ⟨(blk_cell BK111.out 0).trans rfl,(blk_cell BK111.out 1).trans rfl,(blk_cell BK111.out 2).trans rfl⟩ (fun hHeld=> ?_)
   clear hK K
   refine norm_ (a':= ?_) ?_ ?_
   rotate_left
   ·show Act.put _ (some 5) _=_
    simp only[Act.put,List.setIfInBounds_toArray,List.set_cons_zero,List.set_cons_succ,i64_w,i32_w]
    rfl
   refine one_ (i:=5) (N:=some 18) #[true,true,true,true,true,true,false,true,false] rfl rfl (by kernel_rfl) (by decide) (fun K hK=> ?_)
   refine Kd.S_make_step (Kd.slice 38 k38) _ 34 (by rfl) (N:=18) rfl 116 _ _ rfl (n0:Int) rfl rfl Try.underlying116 (.slice none 0 0) 24 infoRowS rfl (by decide) (by omega) [] (ok:=fun _=>True) (okp:=fun _=>True) ⟨_,rfl,Kd.R_nil _ _ _ _ _⟩ (fun _ hk=>hk) trivial HH0.out (by have:=HH1.out;omega) (Below.refl _ _) (Nat.le_refl _) ?_
   intro v18 w8 ho hb _ _
   rw[← NR0.out] at ho
   obtain⟨Ao,co,eo⟩:=Kd.S_slice ho
   subst eo
   have n0_:=Aside0.mk (Kd.S_lower ho HB.out.size)
   have n1_:=Aside0.mk (blk_below BK111.out hb)
   have n2_:=Aside0.mk (blk_below BK4.out hb)
   have n3_:=Aside0.mk (below_step HB.out hb)
   have n4_:=Aside0.mk (blk_below BK5.out hb)
   clear BK5
   have BK5:=n4_
   clear n4_
   clear BK111 BK4 HB ho hb
   have HO:=n0_
   have BK111:=n1_
   have BK4:=n2_
   have HB:=n3_
   clear n0_ n1_ n2_ n3_
   refine hK.out _ _ ⟨(blk_cell BK111.out 0).trans rfl,(blk_cell BK111.out 1).trans rfl,(blk_cell BK111.out 2).trans rfl⟩ (fun hHeld=> ?_)
   clear hK K
   refine norm_ (a':= ?_) ?_ ?_
   rotate_left
   ·show Act.put _ (some 18) _=_
    simp only[Act.put,List.setIfInBounds_toArray,List.set_cons_zero,List.set_cons_succ,i64_w,i32_w]
    rfl
   refine pure_ (i:=6) (N:=some 19) (v:= ?_) (a':= ?_) #[true,true,true,true,true,true,true,true,false] rfl rfl (by kernel_rfl) (fun _ _ _ h=>h) (Or.inl ⟨by rfl,?_⟩) ?_ ?_
   rotate_left
   ·intro w'
    go_simp
    with_reducible rfl
   rotate_left
   ·simp only[Act.put,List.setIfInBounds_toArray,List.set_cons_zero,List.set_cons_succ,i64_w,i32_w]
    rfl
   exact norm_ (by(simp only[putAll,Act.put,List.setIfInBounds_toArray,List.set_cons_zero,List.set_cons_succ])<;>rfl) (hCont (.slice Ao R0.length co,gb5) _ ⟨hHeld,HO.out,BK111.out,BK5.out,BK4.out,GE5.out,NB111.out,NB4.out,HB.out⟩)
 rintro⟨v18,gb5⟩ w9 ⟨hHeld,h0_,h1_,h2_,h3_,h4_,h5_,h6_,h7_⟩
 clear BK111 BK4 HB
 have HO:=Aside0.mk h0_
 clear h0_
 have BK111:=Aside0.mk h1_
 clear h1_
 have BK5:=Aside0.mk h2_
 clear h2_
 have BK4:=Aside0.mk h3_
 clear h3_
 have GE5:=Aside0.mk h4_
 clear h4_
 have NB111:=Aside0.mk h5_
 clear h5_
 have NB4:=Aside0.mk h6_
 clear h6_
 have HB:=Aside0.mk h7_
 clear h7_
 obtain⟨Ao,co,eo⟩:=Kd.S_slice HO.out
 dsimp only at eo HO BK5 GE5 NB111 NB4
 subst eo
 refine norm_ (a':= ?_) ?_ ?_
 rotate_left
 ·simp only[putAll,Act.put,List.setIfInBounds_toArray,List.set_cons_zero,List.set_cons_succ]
  rfl
 refine one_ (i:=8) (N:=none) #[true,true,true,true,true,true,true,true,true] rfl rfl (by kernel_rfl) (by decide) (fun K hK=> ?_)
 have hs0:w9.cell? ⟨gb5,0,none⟩=some (.int .i64 0):=(blk_cell BK5.out 0).trans rfl
 have hfs0:=blk_frozen BK5.out 0
 have hs1:w9.cell? ⟨gb5,1,none⟩=some (.bool false):=(blk_cell BK5.out 1).trans rfl
 have hfs1:=blk_frozen BK5.out 1
 have hs2:w9.cell? ⟨gb5,2,none⟩=some (.slice none 0 0):=(blk_cell BK5.out 2).trans rfl
 have hfs2:=blk_frozen BK5.out 2
 have hs3:w9.cell? ⟨gb5,3,none⟩=some (.slice none 0 0):=(blk_cell BK5.out 3).trans rfl
 have hfs3:=blk_frozen BK5.out 3
 have hs4:w9.cell? ⟨gb5,4,none⟩=some (.slice none 0 0):=(blk_cell BK5.out 4).trans rfl
 have hfs4:=blk_frozen BK5.out 4
 have n0_:Aside0 ((((((w9.setCell ⟨gb5,0,none⟩ (.int .i64 (n0:Int))).setCell ⟨gb5,1,none⟩ (.bool a0_1)).setCell ⟨gb5,2,none⟩ (.slice A0_2 l0_2.length c0_2)).setCell ⟨gb5,3,none⟩ (.slice A1 n1 c1)).setCell ⟨gb5,4,none⟩ (.slice Ao R0.length co)).heap[gb5]? =some (.cells #[.int .i64 (n0:Int), .bool a0_1, .slice A0_2 l0_2.length c0_2, .slice A1 n1 c1, .slice Ao R0.length co] 118 (0,0))):=⟨by
  refine blk_put (cs:= #[.int .i64 (n0:Int), .bool a0_1, .slice A0_2 l0_2.length c0_2, .slice A1 n1 c1, .slice none 0 0]) ?_ 4 _ rfl
  refine blk_put (cs:= #[.int .i64 (n0:Int), .bool a0_1, .slice A0_2 l0_2.length c0_2, .slice none 0 0, .slice none 0 0]) ?_ 3 _ rfl
  refine blk_put (cs:= #[.int .i64 (n0:Int), .bool a0_1, .slice none 0 0, .slice none 0 0, .slice none 0 0]) ?_ 2 _ rfl
  refine blk_put (cs:= #[.int .i64 (n0:Int), .bool false, .slice none 0 0, .slice none 0 0, .slice none 0 0]) ?_ 1 _ rfl
  refine blk_put (cs:= #[.int .i64 0, .bool false, .slice none 0 0, .slice none 0 0, .slice none 0 0]) ?_ 0 _ rfl
  exact BK5.out⟩
 have n1_:Aside0 ((((((w9.setCell ⟨gb5,0,none⟩ (.int .i64 (n0:Int))).setCell ⟨gb5,1,none⟩ (.bool a0_1)).setCell ⟨gb5,2,none⟩ (.slice A0_2 l0_2.length c0_2)).setCell ⟨gb5,3,none⟩ (.slice A1 n1 c1)).setCell ⟨gb5,4,none⟩ (.slice Ao R0.length co)).heap[gb111]? =some (.cells #[.int .i64 (n0:Int), .bool a0_1, .slice A0_2 l0_2.length c0_2] 24 (0,0))):=⟨by
  refine blk_far ?_ NB111.out _
  refine blk_far ?_ NB111.out _
  refine blk_far ?_ NB111.out _
  refine blk_far ?_ NB111.out _
  refine blk_far ?_ NB111.out _
  exact BK111.out⟩
 have n2_:Aside0 ((((((w9.setCell ⟨gb5,0,none⟩ (.int .i64 (n0:Int))).setCell ⟨gb5,1,none⟩ (.bool a0_1)).setCell ⟨gb5,2,none⟩ (.slice A0_2 l0_2.length c0_2)).setCell ⟨gb5,3,none⟩ (.slice A1 n1 c1)).setCell ⟨gb5,4,none⟩ (.slice Ao R0.length co)).heap[gb4]? =some (.cells #[.int .i64 0, .bool false, .slice none 0 0, .slice none 0 0, .slice none 0 0] 118 (0,0))):=⟨by
  refine blk_far ?_ NB4.out _
  refine blk_far ?_ NB4.out _
  refine blk_far ?_ NB4.out _
  refine blk_far ?_ NB4.out _
  refine blk_far ?_ NB4.out _
  exact BK4.out⟩
 have n3_:Aside0 (Kd.S (Kd.slice 38 k38) 34 (((((w9.setCell ⟨gb5,0,none⟩ (.int .i64 (n0:Int))).setCell ⟨gb5,1,none⟩ (.bool a0_1)).setCell ⟨gb5,2,none⟩ (.slice A0_2 l0_2.length c0_2)).setCell ⟨gb5,3,none⟩ (.slice A1 n1 c1)).setCell ⟨gb5,4,none⟩ (.slice Ao R0.length co)) w.heap.size (fun _=>True) (.slice Ao R0.length co) R0):=⟨Kd.S_mono (Kd.S_far (p:=⟨gb5,4,none⟩) (Kd.S_far (p:=⟨gb5,3,none⟩) (Kd.S_far (p:=⟨gb5,2,none⟩) (Kd.S_far (p:=⟨gb5,1,none⟩) (Kd.S_far (p:=⟨gb5,0,none⟩) (Kd.S_types HO.out BK5.out (by decide)) (fun _ hk=>hk.2) (.int .i64 (n0:Int))) (fun _ hk=>hk.2) (.bool a0_1)) (fun _ hk=>hk.2) (.slice A0_2 l0_2.length c0_2)) (fun _ hk=>hk.2) (.slice A1 n1 c1)) (fun _ hk=>hk.2) (.slice Ao R0.length co)) (fun _ _=>trivial)⟩
 have n4_:Aside0 (Below w.heap.size w (((((w9.setCell ⟨gb5,0,none⟩ (.int .i64 (n0:Int))).setCell ⟨gb5,1,none⟩ (.bool a0_1)).setCell ⟨gb5,2,none⟩ (.slice A0_2 l0_2.length c0_2)).setCell ⟨gb5,3,none⟩ (.slice A1 n1 c1)).setCell ⟨gb5,4,none⟩ (.slice Ao R0.length co))):=⟨by repeat(first|exact HB.out|refine below_set ?_ GE5.out)⟩
 refine skip_ (w1:=(((((w9.setCell ⟨gb5,0,none⟩ (.int .i64 (n0:Int))).setCell ⟨gb5,1,none⟩ (.bool a0_1)).setCell ⟨gb5,2,none⟩ (.slice A0_2 l0_2.length c0_2)).setCell ⟨gb5,3,none⟩ (.slice A1 n1 c1)).setCell ⟨gb5,4,none⟩ (.slice Ao R0.length co))) (by rfl) rfl ?_ ?_
 ·go_simp
 clear hs0 hfs0 hs1 hfs1 hs2 hfs2 hs3 hfs3 hs4 hfs4
 refine hK.out _ _ ⟨(blk_cell n1_.out 0).trans rfl,(blk_cell n1_.out 1).trans rfl,(blk_cell n1_.out 2).trans rfl⟩ (fun hHeld=> ?_)
 clear hK K BK5 BK111 BK4 HO HB hHeld
 have BK5:=n0_
 have BK111:=n1_
 have BK4:=n2_
 have HO:=n3_
 have HB:=n4_
 clear n0_ n1_ n2_ n3_ n4_
 refine done_ (by kernel_rfl) ?_
 generalize (((((w9.setCell ⟨gb5,0,none⟩ (.int .i64 (n0:Int))).setCell ⟨gb5,1,none⟩ (.bool a0_1)).setCell ⟨gb5,2,none⟩ (.slice A0_2 l0_2.length c0_2)).setCell ⟨gb5,3,none⟩ (.slice A1 n1 c1)).setCell ⟨gb5,4,none⟩ (.slice Ao R0.length co))=w10 at BK5 BK111 BK4 HO HB ⊢
 go_wp2_with fail
 refine start_ (n:=6) (S:=(fun w'=>w'.cell? ⟨gb111,0,none⟩=some (.int .i64 (n0:Int))∧w'.cell? ⟨gb111,1,none⟩=some (.bool a0_1)∧w'.cell? ⟨gb111,2,none⟩=some (.slice A0_2 l0_2.length c0_2))) (ds:=[]) #[false,false,false,false,false,false] (by kernel_rfl) rfl rfl ⟨(blk_cell BK111.out 0).trans rfl,(blk_cell BK111.out 1).trans rfl,(blk_cell BK111.out 2).trans rfl⟩ (fun hHeld=> ?_)
 have n0_:=Aside0.mk (below_drew HB.out)
 have n1_:Aside0 (w10.drew.heap[gb111]? =some (.cells #[.int .i64 (n0:Int), .bool a0_1, .slice A0_2 l0_2.length c0_2] 24 (0,0))):=⟨BK111.out⟩
 have n2_:Aside0 (w10.drew.heap[gb4]? =some (.cells #[.int .i64 0, .bool false, .slice none 0 0, .slice none 0 0, .slice none 0 0] 118 (0,0))):=⟨BK4.out⟩
 have n3_:Aside0 (w10.drew.heap[gb5]? =some (.cells #[.int .i64 (n0:Int), .bool a0_1, .slice A0_2 l0_2.length c0_2, .slice A1 n1 c1, .slice Ao R0.length co] 118 (0,0))):=⟨BK5.out⟩
 have n4_:=Aside0.mk (Kd.S_drew HO.out)
 clear HB BK111 BK4 BK5 HO
 have HB:=n0_
 have BK111:=n1_
 have BK4:=n2_
 have BK5:=n3_
 have HO:=n4_
 clear n0_ n1_ n2_ n3_ n4_
 generalize w10.drew=w11 at BK111 HB BK4 BK5 HO hHeld ⊢
 refine take_ (i:=0) (N:=some 20) (v:= ?_) (a':= ?_) #[true,false,false,false,false,false] rfl rfl (by kernel_rfl) (fun _ _ _ h=>h) (Or.inl ⟨by rfl,?_⟩) hHeld ?_ ?_
 rotate_left
 ·rintro w' ⟨s0,s1,s2⟩
  go_simp
  with_reducible rfl
 rotate_left
 ·simp only[Act.put,List.setIfInBounds_toArray,List.set_cons_zero,List.set_cons_succ,i64_w,i32_w]
  rfl
 refine take_ (i:=2) (N:=some 22) (v:= ?_) (a':= ?_) #[true,false,true,false,false,false] rfl rfl (by kernel_rfl) (fun _ _ _ h=>h) (Or.inl ⟨by rfl,?_⟩) hHeld ?_ ?_
 rotate_left
 ·rintro w' ⟨s0,s1,s2⟩
  go_simp
  with_reducible rfl
 rotate_left
 ·simp only[Act.put,List.setIfInBounds_toArray,List.set_cons_zero,List.set_cons_succ,i64_w,i32_w]
  rfl
 refine one_ (i:=1) (N:=some 21) #[true,true,true,false,false,false] rfl rfl (by kernel_rfl) (by decide) (fun K hK=> ?_)
 refine goes_ Try.func141 (by kernel_rfl) rfl #[.agg #[.int .i64 (n0:Int), .bool a0_1, .slice A0_2 l0_2.length c0_2]] (by rfl) rfl rfl (by(try simp only[List.map_toArray,List.map_cons,List.map_nil]);first|done|rfl) ?_
 refine(leaving_calls (n0:Int) a0_1 A0_2 c0_2 l0_2 _ (Kd.C_below HR0.out HB.out) HC0_2.out HH0.out HH1.out (by omega) HE0.out).mono ?_
 rintro e w12 ⟨v21,rfl,hS,hb⟩
 refine⟨_,rfl,?_⟩
 have n0_:=Aside0.mk (below_step HB.out hb)
 have n1_:=Aside0.mk (blk_below BK111.out hb)
 have n2_:=Aside0.mk (blk_below BK4.out hb)
 have n3_:=Aside0.mk (blk_below BK5.out hb)
 have n4_:=Aside0.mk (Kd.S_below HO.out hb)
 have n5_:=Aside0.mk (Kd.S_lower hS HB.out.size)
 clear HB BK111 BK4 BK5 HO hS hb
 have HB:=n0_
 have BK111:=n1_
 have BK4:=n2_
 have BK5:=n3_
 have HO:=n4_
 have Hv21:=n5_
 clear n0_ n1_ n2_ n3_ n4_ n5_
 obtain⟨Av21,cv21,ev21⟩:=Kd.S_slice Hv21.out
 subst ev21
 refine hK.out _ _ ⟨(blk_cell BK111.out 0).trans rfl,(blk_cell BK111.out 1).trans rfl,(blk_cell BK111.out 2).trans rfl⟩ (fun hHeld=> ?_)
 clear hK K
 refine norm_ (a':= ?_) ?_ ?_
 rotate_left
 ·show Act.put _ (some 21) _=_
  simp only[Act.put,List.setIfInBounds_toArray,List.set_cons_zero,List.set_cons_succ,i64_w,i32_w]
  rfl
 refine one_ (i:=3) (N:=some 23) #[true,true,true,true,false,false] rfl rfl (by kernel_rfl) (by decide) (fun K hK=> ?_)
 refine goes_ Try.func142 (by kernel_rfl) rfl #[.agg #[.int .i64 (n0:Int), .bool a0_1, .slice A0_2 l0_2.length c0_2]] (by rfl) rfl rfl (by(try simp only[List.map_toArray,List.map_cons,List.map_nil]);first|done|rfl) ?_
 refine(coming_calls (n0:Int) a0_1 A0_2 c0_2 l0_2 _ (Kd.C_below HR0.out HB.out) HC0_2.out HH0.out HH1.out (by omega) HE1.out).mono ?_
 rintro e w13 ⟨v23,rfl,hS,hb⟩
 refine⟨_,rfl,?_⟩
 have n0_:=Aside0.mk (below_step HB.out hb)
 have n1_:=Aside0.mk (blk_below BK111.out hb)
 have n2_:=Aside0.mk (blk_below BK4.out hb)
 have n3_:=Aside0.mk (blk_below BK5.out hb)
 have n4_:=Aside0.mk (Kd.S_below HO.out hb)
 have n5_:=Aside0.mk (Kd.S_lower hS HB.out.size)
 have m_:=Aside0.mk (Kd.S_below Hv21.out hb)
 clear Hv21
 have Hv21:=m_
 clear m_
 clear HB BK111 BK4 BK5 HO hS hb
 have HB:=n0_
 have BK111:=n1_
 have BK4:=n2_
 have BK5:=n3_
 have HO:=n4_
 have Hv23:=n5_
 clear n0_ n1_ n2_ n3_ n4_ n5_
 obtain⟨Av23,cv23,ev23⟩:=Kd.S_slice Hv23.out
 subst ev23
 refine hK.out _ _ ⟨(blk_cell BK111.out 0).trans rfl,(blk_cell BK111.out 1).trans rfl,(blk_cell BK111.out 2).trans rfl⟩ (fun hHeld=> ?_)
 clear hK K
 refine norm_ (a':= ?_) ?_ ?_
 rotate_left
 ·show Act.put _ (some 23) _=_
  simp only[Act.put,List.setIfInBounds_toArray,List.set_cons_zero,List.set_cons_succ,i64_w,i32_w]
  rfl
 refine pure_ (i:=4) (N:=some 6) (v:= ?_) (a':= ?_) #[true,true,true,true,true,false] rfl rfl (by kernel_rfl) (fun _ _ _ h=>h) (Or.inl ⟨by rfl,?_⟩) ?_ ?_
 rotate_left
 ·intro w'
  go_simp
  with_reducible rfl
 rotate_left
 ·simp only[Act.put,List.setIfInBounds_toArray,List.set_cons_zero,List.set_cons_succ,i64_w,i32_w]
  rfl
 refine pure_ (i:=5) (N:=some 7) (v:= ?_) (a':= ?_) #[true,true,true,true,true,true] rfl rfl (by kernel_rfl) (fun _ _ _ h=>h) (Or.inl ⟨by rfl,?_⟩) ?_ ?_
 rotate_left
 ·intro w'
  go_simp
  with_reducible rfl
 rotate_left
 ·simp only[Act.put,List.setIfInBounds_toArray,List.set_cons_zero,List.set_cons_succ,i64_w,i32_w]
  rfl
 refine done_ (by kernel_rfl) ?_
 go_wp2_with fail
 have HR0':Aside0 (R0=rowsAt l0_2 n0 0):=⟨by rw[NR0.out,rowsAt_zero,Int.toNat_natCast]⟩
 have hlR:R0.length=n0:=by rw[HR0'.out,rowsAt_len]
 rw[hlR] at HO BK5 ⊢
 rw[HR0'.out] at HO
 simp only[Int.toNat_natCast] at Hv21 Hv23 ⊢
 clear hHeld
 obtain⟨L0,hL0⟩: ∃ L,L=lsAt eFrom l0_2 n0 l0_2.length:=⟨_,rfl⟩
 obtain⟨L1,hL1⟩: ∃ L,L=lsAt eTo l0_2 n0 l0_2.length:=⟨_,rfl⟩
 have hn0:L0.length=n0:=by rw[hL0,lsAt_len]
 have hn1:L1.length=n0:=by rw[hL1,lsAt_len]
 rw[← hL0,hn0] at Hv21 ⊢
 rw[← hL1,hn1] at Hv23 ⊢
 have HL0:=Aside0.mk hL0
 have HL1:=Aside0.mk hL1
 clear hL0 hL1
 clear HR0' hlR HR0_2
 have hn6:n0≤1000000:=by have:=HH1.out;omega
 go_loopw [26] (fun v26 w'=> ∃ k:Nat,k≤n0∧v26= .int .i64 k∧Aside0 (Kd.S (Kd.slice 38 k38) 34 w' w.heap.size (fun _=>True) (.slice Ao n0 co) (rowsAt l0_2 n0 k))∧Aside0 (w'.heap[gb111]? =some (.cells #[.int .i64 (n0:Int), .bool a0_1, .slice A0_2 l0_2.length c0_2] 24 (0,0)))∧Aside0 (w'.heap[gb4]? =some (.cells #[.int .i64 0, .bool false, .slice none 0 0, .slice none 0 0, .slice none 0 0] 118 (0,0)))∧Aside0 (w'.heap[gb5]? =some (.cells #[.int .i64 (n0:Int), .bool a0_1, .slice A0_2 l0_2.length c0_2, .slice A1 n1 c1, .slice Ao n0 co] 118 (0,0)))∧Aside0 (Kd.S (Kd.slice 3 (Kd.int .i64)) 25 w' w.heap.size (fun _=>True) (.slice Av21 n0 cv21) L0)∧Aside0 (Kd.S (Kd.slice 3 (Kd.int .i64)) 25 w' w.heap.size (fun _=>True) (.slice Av23 n0 cv23) L1)∧Aside0 (Below w.heap.size w w')) (fun v26 _=>n0 - (intOf v26).toNat)
 case atStart=>exact⟨0,Nat.zero_le _,rfl,HO,BK111,BK4,BK5,Hv21,Hv23,HB⟩
 case round=>
  clear HO BK111 BK4 BK5 Hv21 Hv23 HB
  obtain⟨k,hk,rfl,HO,BK111,BK4,BK5,Hv21,Hv23,HB⟩:=hrel
  by_cases hlt:k<n0
  ·have pk:0≤((k:Nat):Int):=by omega
   have qk:((k:Nat):Int)<(n0:Int):=by omega
   have c27:decide ((k:Int)<(n0:Int))=true:=decide_eq_true qk
   obtain⟨ad0,AA0,cc0,e_,hx_,hl_,_⟩:=at_L7 (Kd.S_reads' Hv21.out).2.2 (k:Int) pk (by rw[hn0];omega)
   cases e_
   obtain⟨ce_,hce_,hM_,hcc_⟩:=Kd.S_get Hv21.out [] (k:Int) pk qk
   obtain⟨ve_,rfl,ge_⟩:=hM_
   have hv_:=hcc_ 0 _ rfl
   rw[Nat.add_zero,show ((Kd.slice 3 (Kd.int .i64))).sz=1 from rfl,Nat.mul_one] at hv_
   replace hv_:=Option.some.inj (hv_.symm.trans hx_)
   rw[hv_] at ge_
   obtain⟨LL0,hLL0⟩: ∃ L,L=rd_L7 L0 (k:Int):=⟨_,rfl⟩
   have HLL0:Aside0 (Kd.R (Kd.int .i64) 3 wr w.heap.size (fun _=>True) (.slice AA0 LL0.length cc0) LL0):=⟨by rw[hLL0];exact Kd.R_mono ge_ (fun _ _=>trivial)⟩
   rw[← hLL0] at hx_
   simp only[Int.toNat_natCast] at hx_
   have HELL0:=Aside0.mk hLL0
   clear ge_ hv_ hcc_ hce_ hl_ hLL0
   have hxLL0:=hx_
   clear hx_
   obtain⟨go,co2,eo,gbase,glt,cl,HG⟩:=Kd.S_form HO.out (by rw[rowsAt_len];omega)
   rw[rowsAt_len] at eo
   injection eo with ea _ ec
   subst ea
   subst ec
   have GBO:=Aside0.mk gbase
   clear gbase glt HG
   have HLE0:Aside0 (LL0.length≤500000):=⟨by rw[HELL0.out,HL0.out];exact Nat.le_trans (lsAt_row _ _ _ _ _) hl⟩
   go_wp2_with fail
   have hLL0:=HLE0.out
   obtain⟨wo1,hwo1⟩: ∃ x_:World,x_=wr:=⟨_,rfl⟩
   subst hwo1
   go_loopw [34] (fun v_ w'=> ∃ j:Nat,j≤LL0.length∧v_= .int .i64 j∧Aside0 (Kd.S (Kd.slice 38 k38) 34 w' w.heap.size (fun _=>True) (.slice (some ⟨go,0,none⟩) n0 co) ((rowsAt l0_2 n0 k).set k (([]:List S38) ++ (LL0.take j).map (fun i=>(⟨i,false⟩:S38)))))∧Aside0 (w'.heap[gb111]? =some (.cells #[.int .i64 (n0:Int), .bool a0_1, .slice A0_2 l0_2.length c0_2] 24 (0,0)))∧Aside0 (w'.heap[gb4]? =some (.cells #[.int .i64 0, .bool false, .slice none 0 0, .slice none 0 0, .slice none 0 0] 118 (0,0)))∧Aside0 (w'.heap[gb5]? =some (.cells #[.int .i64 (n0:Int), .bool a0_1, .slice A0_2 l0_2.length c0_2, .slice A1 n1 c1, .slice (some ⟨go,0,none⟩) n0 co] 118 (0,0)))∧Aside0 (Kd.S (Kd.slice 3 (Kd.int .i64)) 25 w' w.heap.size (fun _=>True) (.slice (some ad0) n0 cv21) L0)∧Aside0 (Kd.S (Kd.slice 3 (Kd.int .i64)) 25 w' w.heap.size (fun _=>True) (.slice Av23 n0 cv23) L1)∧Aside0 (Kd.R (Kd.int .i64) 3 w' w.heap.size (fun _=>True) (.slice AA0 LL0.length cc0) LL0)∧Aside0 (Below w.heap.size w w')) (fun v_ _=>LL0.length - (intOf v_).toNat)
   case atStart=>exact⟨0,Nat.zero_le _,rfl,⟨by rw[List.take_zero,List.map_nil,List.append_nil,rowsAt_self l0_2 n0 k hlt];exact HO.out⟩,BK111,BK4,BK5,Hv21,Hv23,HLL0,HB⟩
   case round=>
    clear HO BK111 BK4 BK5 Hv21 Hv23 HLL0 HB
    obtain⟨j,hj,rfl,HO,BK111,BK4,BK5,Hv21,Hv23,HLL0,HB⟩:=hrel
    by_cases hltj:j<LL0.length
    ·have pj:0≤((j:Nat):Int):=by omega
     have qj:((j:Nat):Int)<(LL0.length:Int):=by omega
     have cj:decide ((j:Int)<(LL0.length:Int))=true:=decide_eq_true qj
     obtain⟨adj,eadj,hxj⟩:=Kd.at_int (Kd.R_reads' HLL0.out).2.2 (j:Int) pj qj
     cases eadj
     simp only[Int.toNat_natCast] at hxj
     have HST:=Aside0.mk (row_step ([]:List S38) LL0 false j hltj)
     obtain⟨xj,hxv⟩: ∃ x_,x_=rd LL0 (j:Int):=⟨_,rfl⟩
     obtain⟨RW,hRW⟩: ∃ r_,r_=(([]:List S38) ++ (LL0.take j).map (fun i=>(⟨i,false⟩:S38))):=⟨_,rfl⟩
     have HRL:Aside0 (RW.length≤1000000):=⟨by rw[hRW];simp;have:=HLE0.out;omega⟩
     rw[← hRW, ← hxv] at HST
     obtain⟨RW2,hRW2⟩: ∃ r_,r_=(([]:List S38) ++ (LL0.take (j+1)).map (fun i=>(⟨i,false⟩:S38))):=⟨_,rfl⟩
     rw[← hRW2] at HST
     have HRW2:=Aside0.mk hRW2
     clear hRW2
     rw[← hxv] at hxj
     rw[← hRW] at HO
     have HRW:=Aside0.mk hRW
     have HXV:=Aside0.mk hxv
     clear hRW hxv
     obtain⟨oki,c_,_,hM_,hcc_,_,_,hH_⟩:=Kd.S_elem HO.out [] (k:Int) pk qk
     obtain⟨vr,rfl,hR_⟩:=hM_
     rw[show ((rowsAt l0_2 n0 k).set k RW).getD (k:Int).toNat []=RW from rd_set (rowsAt l0_2 n0 k) k RW (by rw[rowsAt_len];exact hlt)] at hR_
     obtain⟨Ar,cr,er⟩:=Kd.R_slice hR_
     subst er
     have hx4:=hcc_ 0 _ rfl
     rw[show ((Kd.slice 38 k38)).sz=1 from rfl,Nat.mul_one,Nat.add_zero,Int.toNat_natCast] at hx4
     have UU:=Aside0.mk hR_
     have HH:=Aside0.mk hH_
     clear hcc_ hR_ hH_
     have hx5:wr.cell? ⟨gb5,4,none⟩=some (.slice (some ⟨go,0,none⟩) n0 co):=(blk_cell BK5.out 4).trans rfl
     go_wp2_with fail
     refine start_ (n:=14) (S:=fun w'=>w'.cell? ⟨gb5,4,none⟩=some (.slice (some ⟨go,0,none⟩) n0 co)∧w'.cell? ⟨go,k,none⟩=some (.slice Ar RW.length cr)) (ds:=[13]) #[false,false,false,false,false,false,false,false,false,false,false,false,false,false] (by kernel_rfl) rfl rfl ⟨hx5,hx4⟩ (fun hHeld=> ?_)
     have m0_:=Aside0.mk (below_drew HB.out)
     have m1_:=Aside0.mk ((show wr.drew.heap[gb111]? =_ from BK111.out))
     have m2_:=Aside0.mk ((show wr.drew.heap[gb4]? =_ from BK4.out))
     have m3_:=Aside0.mk ((show wr.drew.heap[gb5]? =_ from BK5.out))
     have m4_:=Aside0.mk (Kd.S_drew Hv21.out)
     have m5_:=Aside0.mk (Kd.S_drew Hv23.out)
     have m6_:=Aside0.mk (Kd.R_drew HLL0.out)
     have m7_:=Aside0.mk (Kd.R_drew UU.out)
     have m8_:=Aside0.mk (Kd.H_drew HH.out)
     clear HB BK111 BK4 BK5 Hv21 Hv23 HLL0 UU HH
     have HB:=m0_
     clear m0_
     have BK111:=m1_
     clear m1_
     have BK4:=m2_
     clear m2_
     have BK5:=m3_
     clear m3_
     have Hv21:=m4_
     clear m4_
     have Hv23:=m5_
     clear m5_
     have HLL0:=m6_
     clear m6_
     have UU:=m7_
     clear m7_
     have HH:=m8_
     clear m8_
     clear HO hxj hx5 hx4
     generalize wr.drew=w14 at HB BK111 BK4 BK5 Hv21 Hv23 HLL0 UU HH hHeld ⊢
     refine pure_ (i:=0) (N:=some 38) (v:= ?_) (a':= ?_) #[true,false,false,false,false,false,false,false,false,false,false,false,false,false] rfl rfl (by kernel_rfl) (fun _ _ _ h=>h) (Or.inl ⟨by rfl,?_⟩) ?_ ?_
     rotate_left
     ·intro w'
      go_simp
      with_reducible rfl
     rotate_left
     ·simp only[Act.put,List.setIfInBounds_toArray,List.set_cons_zero,List.set_cons_succ,i64_w,i32_w]
      rfl
     refine pure_ (i:=2) (N:=some 40) (v:= ?_) (a':= ?_) #[true,false,true,false,false,false,false,false,false,false,false,false,false,false] rfl rfl (by kernel_rfl) (fun _ _ _ h=>h) (Or.inl ⟨by rfl,?_⟩) ?_ ?_
     rotate_left
     ·intro w'
      go_simp
      with_reducible rfl
     rotate_left
     ·simp only[Act.put,List.setIfInBounds_toArray,List.set_cons_zero,List.set_cons_succ,i64_w,i32_w]
      rfl
     refine pure_ (i:=3) (N:=some 41) (v:= ?_) (a':= ?_) #[true,false,true,true,false,false,false,false,false,false,false,false,false,false] rfl rfl (by kernel_rfl) (fun _ _ _ h=>h) (Or.inl ⟨by rfl,?_⟩) ?_ ?_
     rotate_left
     ·intro w'
      go_simp
      with_reducible rfl
     rotate_left
     ·simp only[Act.put,List.setIfInBounds_toArray,List.set_cons_zero,List.set_cons_succ,i64_w,i32_w]
      rfl
     refine pure_ (i:=5) (N:=some 43) (v:= ?_) (a':= ?_) #[true,false,true,true,false,true,false,false,false,false,false,false,false,false] rfl rfl (by kernel_rfl) (fun _ _ _ h=>h) (Or.inl ⟨by rfl,?_⟩) ?_ ?_
     rotate_left
     ·intro w'
      go_simp
      with_reducible rfl
     rotate_left
     ·simp only[Act.put,List.setIfInBounds_toArray,List.set_cons_zero,List.set_cons_succ,i64_w,i32_w]
      rfl
     refine pure_ (i:=8) (N:=some 46) (v:= ?_) (a':= ?_) #[true,false,true,true,false,true,false,false,true,false,false,false,false,false] rfl rfl (by kernel_rfl) (fun _ _ _ h=>h) (Or.inl ⟨by rfl,?_⟩) ?_ ?_
     rotate_left
     ·intro w'
      go_simp
      with_reducible rfl
     rotate_left
     ·simp only[Act.put,List.setIfInBounds_toArray,List.set_cons_zero,List.set_cons_succ,i64_w,i32_w]
      rfl
     refine pure_ (i:=9) (N:=some 47) (v:= ?_) (a':= ?_) #[true,false,true,true,false,true,false,false,true,true,false,false,false,false] rfl rfl (by kernel_rfl) (fun _ _ _ h=>h) (Or.inl ⟨by rfl,?_⟩) ?_ ?_
     rotate_left
     ·intro w'
      go_simp
      with_reducible rfl
     rotate_left
     ·simp only[Act.put,List.setIfInBounds_toArray,List.set_cons_zero,List.set_cons_succ,i64_w,i32_w]
      rfl
     refine take_ (i:=1) (N:=some 39) (v:= ?_) (a':= ?_) #[true,true,true,true,false,true,false,false,true,true,false,false,false,false] rfl rfl (by kernel_rfl) (fun _ _ _ h=>h) (Or.inl ⟨by rfl,?_⟩) hHeld ?_ ?_
     rotate_left
     ·rintro w' ⟨s0,s1⟩
      go_simp
      with_reducible rfl
     rotate_left
     ·simp only[Act.put,List.setIfInBounds_toArray,List.set_cons_zero,List.set_cons_succ,i64_w,i32_w]
      rfl
     refine take_ (i:=4) (N:=some 42) (v:= ?_) (a':= ?_) #[true,true,true,true,true,true,false,false,true,true,false,false,false,false] rfl rfl (by kernel_rfl) (fun _ _ _ h=>h) (Or.inl ⟨by rfl,?_⟩) hHeld ?_ ?_
     rotate_left
     ·rintro w' ⟨s0,s1⟩
      go_simp
      with_reducible rfl
     rotate_left
     ·simp only[Act.put,List.setIfInBounds_toArray,List.set_cons_zero,List.set_cons_succ,i64_w,i32_w]
      rfl
     refine pure_ (i:=6) (N:=some 44) (v:= ?_) (a':= ?_) #[true,true,true,true,true,true,true,false,true,true,false,false,false,false] rfl rfl (by kernel_rfl) (fun _ _ _ h=>h) (Or.inl ⟨by rfl,?_⟩) ?_ ?_
     rotate_left
     ·intro w'
      go_simp
      with_reducible rfl
     rotate_left
     ·simp only[Act.put,List.setIfInBounds_toArray,List.set_cons_zero,List.set_cons_succ,i64_w,i32_w]
      rfl
     refine take_ (i:=7) (N:=some 45) (v:= ?_) (a':= ?_) #[true,true,true,true,true,true,true,true,true,true,false,false,false,false] rfl rfl (by kernel_rfl) (fun _ _ _ h=>h) (Or.inl ⟨by rfl,?_⟩) hHeld ?_ ?_
     rotate_left
     ·rintro w' ⟨s0,s1⟩
      go_simp
      with_reducible rfl
     rotate_left
     ·simp only[Act.put,List.setIfInBounds_toArray,List.set_cons_zero,List.set_cons_succ,i64_w,i32_w]
      rfl
     refine one_ (i:=10) (N:=some 48) #[true,true,true,true,true,true,true,true,true,true,true,false,false,false] rfl rfl (by kernel_rfl) (by decide) (fun K hK=> ?_)
     refine value_ (w1:= ?_) (v:= ?_) (by rfl) rfl ?_ ?_
     rotate_left 2
     ·go_simp
      constructor
      ·rfl
      ·rfl
     refine hK.out _ _ ⟨(blk_cell (blk_alloc BK5.out _) 4).trans rfl,(World.cell?_alloc_lt _ _ _ (World.block_lt_of_cell? _ _ hHeld.2)).trans hHeld.2⟩ (fun hHeld2=> ?_)
     clear hK K hHeld2
     refine norm_ (a':= ?_) ?_ ?_
     rotate_left
     ·show Act.put _ (some 48) _=_
      simp only[Act.put,List.setIfInBounds_toArray,List.set_cons_zero,List.set_cons_succ,i64_w,i32_w]
      rfl
     refine one_ (i:=11) (N:=some 49) #[true,true,true,true,true,true,true,true,true,true,true,true,false,false] rfl rfl (by kernel_rfl) (by decide) (fun K hK=> ?_)
     refine Kd.R_append_step k38 (w0:=w) w.heap.size (by rfl) (.tmp 45) (.tmp 48) 34 38 (.agg #[(.int .i64 0),(.bool false)]) 16 rfl Try.underlying34 info38 rfl (by decide) (by omega) (.slice Ar RW.length cr) RW (⟨xj,false⟩:S38) [.int .i64 xj, .bool false] (fun k_=>oki k_∨((fun _=>True)) k_∧w14.heap.size≤k_) (fun _=>False) rfl rfl ?aP (fun _ hk=>hk.elim) ?aF ?aO ?aB ?aS ?aL ?_
     (case aP=>exact k38_mkM _ _ _ (⟨xj,false⟩:S38))
     (case aF=>exact fun k_ hk=> .inr ⟨trivial,hk⟩)
     (case aO=>exact Kd.R_mono UU.out (fun _ hk=> .inl hk))
     (case aB=>exact HB.out)
     (case aS=>exact HB.out.size)
     (case aL=>have:=HRL.out;omega)
     intro v_ w16 ho hb hg hat
     clear hat
     have m0_:=Aside0.mk (blk_grown BK111.out hg (Kd.R_ne UU.out BK111.out (by decide)))
     have m1_:=Aside0.mk (blk_grown BK4.out hg (Kd.R_ne UU.out BK4.out (by decide)))
     have m2_:=Aside0.mk (blk_grown BK5.out hg (Kd.R_ne UU.out BK5.out (by decide)))
     have m3_:=Aside0.mk (Kd.S_over' Hv21.out (Kd.R_typed UU.out) (by decide) hg)
     have m4_:=Aside0.mk (Kd.S_over' Hv23.out (Kd.R_typed UU.out) (by decide) hg)
     have m5_:=Aside0.mk (Kd.R_over' HLL0.out (Kd.R_typed UU.out) (by decide) hg)
     have m6_:=Aside0.mk (Kd.H_grown (Kd.H_widen HH.out) hg (fun k_ e_=> .inl (UU.out.1 k_ e_)))
     have m7_:=Aside0.mk (hb)
     have m8_:=Aside0.mk (ho)
     clear BK111 BK4 BK5 Hv21 Hv23 HLL0 HH HB UU
     have BK111:=m0_
     clear m0_
     have BK4:=m1_
     clear m1_
     have BK5:=m2_
     clear m2_
     have Hv21:=m3_
     clear m3_
     have Hv23:=m4_
     clear m4_
     have HLL0:=m5_
     clear m5_
     have HH:=m6_
     clear m6_
     have HB:=m7_
     clear m7_
     have UU:=m8_
     clear m8_
     rw[← HST.out] at UU
     obtain⟨A2,c2,e2⟩:=Kd.R_slice UU.out
     subst e2
     obtain⟨_,_,hraw,_,_,hcc_,_⟩:=Kd.H_raw HH.out pk qk
     obtain⟨_,hfr_⟩:=Kd.H_at HH.out pk qk
     have hx4:=hcc_ 0 _ rfl
     have hf4:=hfr_ 0
     rw[show ((Kd.slice 38 k38)).sz=1 from rfl,Nat.mul_one,Nat.add_zero,Int.toNat_natCast] at hx4 hf4
     have HRAW:=Aside0.mk hraw
     clear hcc_ hfr_ hraw ho hb hg
     refine hK.out _ _ ⟨(blk_cell BK5.out 4).trans rfl,hx4⟩ (fun hHeld=> ?_)
     clear hK K
     refine norm_ (a':= ?_) ?_ ?_
     rotate_left
     ·show Act.put _ (some 49) _=_
      simp only[Act.put,List.setIfInBounds_toArray,List.set_cons_zero,List.set_cons_succ,i64_w,i32_w]
      rfl
     refine pure_ (i:=12) (N:=some 50) (v:= ?_) (a':= ?_) #[true,true,true,true,true,true,true,true,true,true,true,true,true,false] rfl rfl (by kernel_rfl) (fun _ _ _ h=>h) (Or.inl ⟨by rfl,?_⟩) ?_ ?_
     rotate_left
     ·intro w'
      go_simp
      with_reducible rfl
     rotate_left
     ·simp only[Act.put,List.setIfInBounds_toArray,List.set_cons_zero,List.set_cons_succ,i64_w,i32_w]
      rfl
     have HP:=Kd.S_seg0 HH.out pk qk (seg:=[.slice A2 RW2.length c2]) (j:=0) (show 1≤1 from by decide) (x':=RW2) (Kd.M_row UU.out) (fun _ hk=>hk)
     rw[show ((Kd.slice 38 k38)).sz=1 from rfl,Nat.mul_one,Nat.add_zero,Int.toNat_natCast,List.set_set] at HP
     have HG2:w16.grownBy (w16.setCell ⟨go,k,none⟩ (.slice A2 RW2.length c2)) (some go):=HP.2
     have HO:=Aside0.mk (show Kd.S (Kd.slice 38 k38) 34 (w16.setCell ⟨go,k,none⟩ (.slice A2 RW2.length c2)) w.heap.size (fun _=>True) (.slice (some ⟨go,0,none⟩) n0 co) ((rowsAt l0_2 n0 k).set k RW2) from HP.1)
     refine last_ (i:=13) (N:=none) #[true,true,true,true,true,true,true,true,true,true,true,true,true,true] rfl rfl (by kernel_rfl) (by decide) (fun K hK=> ?_)
     refine skip_ (w1:=w16.setCell ⟨go,k,none⟩ (.slice A2 RW2.length c2)) (by rfl) rfl ?_ ?_
     ·go_simp
     refine hK.out _ _ ?_
     clear hK K
     have m0_:=Aside0.mk (blk_grown BK111.out HG2 (Kd.R_ne HRAW.out BK111.out (by decide)))
     have m1_:=Aside0.mk (blk_grown BK4.out HG2 (Kd.R_ne HRAW.out BK4.out (by decide)))
     have m2_:=Aside0.mk (blk_grown BK5.out HG2 (Kd.R_ne HRAW.out BK5.out (by decide)))
     have m3_:=Aside0.mk (Kd.S_over' Hv21.out (Kd.R_typed HRAW.out) (by decide) HG2)
     have m4_:=Aside0.mk (Kd.S_over' Hv23.out (Kd.R_typed HRAW.out) (by decide) HG2)
     have m5_:=Aside0.mk (Kd.R_over' HLL0.out (Kd.R_typed HRAW.out) (by decide) HG2)
     have m6_:=Aside0.mk ((below_set HB.out GBO.out:Below w.heap.size w (w16.setCell ⟨go,k,none⟩ (.slice A2 RW2.length c2))))
     clear BK111 BK4 BK5 Hv21 Hv23 HLL0 HB
     have BK111:=m0_
     clear m0_
     have BK4:=m1_
     clear m1_
     have BK5:=m2_
     clear m2_
     have Hv21:=m3_
     clear m3_
     have Hv23:=m4_
     clear m4_
     have HLL0:=m5_
     clear m5_
     have HB:=m6_
     clear m6_
     clear HP HG2 HRAW UU HH hHeld hx4 hf4
     refine done_ (by kernel_rfl) ?_
     generalize w16.setCell ⟨go,k,none⟩ (.slice A2 RW2.length c2)=w17 at HO BK111 BK4 BK5 Hv21 Hv23 HLL0 HB ⊢
     rw[HRW2.out] at HO
     clear HRW2 HST HRW
     go_wp2_with fail
     go_roundw
     case rel=>exact⟨j+1,by omega,by first|rfl|go_num,HO,BK111,BK4,BK5,Hv21,Hv23,HLL0,HB⟩
     case measure=>simp[intOf]<;>omega
    ·have ej:j=LL0.length:=by omega
     subst ej
     rw[List.take_length] at HO
     have cj:decide ((LL0.length:Int)<(LL0.length:Int))=false:=decide_eq_false (by omega)
     have hlenx:True:=trivial
     obtain⟨ad1,AA1,cc1,e_,hx_,hl_,_⟩:=at_L7 (Kd.S_reads' Hv23.out).2.2 (k:Int) pk (by rw[hn1];omega)
     cases e_
     obtain⟨ce_,hce_,hM_,hcc_⟩:=Kd.S_get Hv23.out [] (k:Int) pk qk
     obtain⟨ve_,rfl,ge_⟩:=hM_
     have hv_:=hcc_ 0 _ rfl
     rw[Nat.add_zero,show ((Kd.slice 3 (Kd.int .i64))).sz=1 from rfl,Nat.mul_one] at hv_
     replace hv_:=Option.some.inj (hv_.symm.trans hx_)
     rw[hv_] at ge_
     obtain⟨LL1,hLL1⟩: ∃ L,L=rd_L7 L1 (k:Int):=⟨_,rfl⟩
     have HLL1:Aside0 (Kd.R (Kd.int .i64) 3 wr w.heap.size (fun _=>True) (.slice AA1 LL1.length cc1) LL1):=⟨by rw[hLL1];exact Kd.R_mono ge_ (fun _ _=>trivial)⟩
     rw[← hLL1] at hx_
     simp only[Int.toNat_natCast] at hx_
     have HELL1:=Aside0.mk hLL1
     clear ge_ hv_ hcc_ hce_ hl_ hLL1
     have hxLL1:=hx_
     clear hx_
     have HLE1:Aside0 (LL1.length≤500000):=⟨by rw[HELL1.out,HL1.out];exact Nat.le_trans (lsAt_row _ _ _ _ _) hl⟩
     go_wp2_with fail
     have hLL1:=HLE1.out
     obtain⟨wo2,hwo2⟩: ∃ x_:World,x_=wr:=⟨_,rfl⟩
     subst hwo2
     go_loopw [57] (fun v_ w'=> ∃ j:Nat,j≤LL1.length∧v_= .int .i64 j∧Aside0 (Kd.S (Kd.slice 38 k38) 34 w' w.heap.size (fun _=>True) (.slice (some ⟨go,0,none⟩) n0 co) ((rowsAt l0_2 n0 k).set k ((([]:List S38) ++ LL0.map (fun i=>(⟨i,false⟩:S38))) ++ (LL1.take j).map (fun i=>(⟨i,true⟩:S38)))))∧Aside0 (w'.heap[gb111]? =some (.cells #[.int .i64 (n0:Int), .bool a0_1, .slice A0_2 l0_2.length c0_2] 24 (0,0)))∧Aside0 (w'.heap[gb4]? =some (.cells #[.int .i64 0, .bool false, .slice none 0 0, .slice none 0 0, .slice none 0 0] 118 (0,0)))∧Aside0 (w'.heap[gb5]? =some (.cells #[.int .i64 (n0:Int), .bool a0_1, .slice A0_2 l0_2.length c0_2, .slice A1 n1 c1, .slice (some ⟨go,0,none⟩) n0 co] 118 (0,0)))∧Aside0 (Kd.S (Kd.slice 3 (Kd.int .i64)) 25 w' w.heap.size (fun _=>True) (.slice (some ad0) n0 cv21) L0)∧Aside0 (Kd.S (Kd.slice 3 (Kd.int .i64)) 25 w' w.heap.size (fun _=>True) (.slice (some ad1) n0 cv23) L1)∧Aside0 (Kd.R (Kd.int .i64) 3 w' w.heap.size (fun _=>True) (.slice AA1 LL1.length cc1) LL1)∧Aside0 (Below w.heap.size w w')) (fun v_ _=>LL1.length - (intOf v_).toNat)
     case atStart=>exact⟨0,Nat.zero_le _,rfl,⟨by rw[List.take_zero,List.map_nil,List.append_nil];exact HO.out⟩,BK111,BK4,BK5,Hv21,Hv23,HLL1,HB⟩
     case round=>
      clear HO BK111 BK4 BK5 Hv21 Hv23 HLL1 HB
      obtain⟨j,hj,rfl,HO,BK111,BK4,BK5,Hv21,Hv23,HLL1,HB⟩:=hrel
      by_cases hltj:j<LL1.length
      ·have pj:0≤((j:Nat):Int):=by omega
       have qj:((j:Nat):Int)<(LL1.length:Int):=by omega
       have cj:decide ((j:Int)<(LL1.length:Int))=true:=decide_eq_true qj
       obtain⟨adj,eadj,hxj⟩:=Kd.at_int (Kd.R_reads' HLL1.out).2.2 (j:Int) pj qj
       cases eadj
       simp only[Int.toNat_natCast] at hxj
       have HST:=Aside0.mk (row_step (([]:List S38) ++ LL0.map (fun i=>(⟨i,false⟩:S38))) LL1 true j hltj)
       obtain⟨xj,hxv⟩: ∃ x_,x_=rd LL1 (j:Int):=⟨_,rfl⟩
       obtain⟨RW,hRW⟩: ∃ r_,r_=((([]:List S38) ++ LL0.map (fun i=>(⟨i,false⟩:S38))) ++ (LL1.take j).map (fun i=>(⟨i,true⟩:S38))):=⟨_,rfl⟩
       have HRL:Aside0 (RW.length≤1000000):=⟨by rw[hRW];simp;have:=HLE0.out;have:=HLE1.out;omega⟩
       rw[← hRW, ← hxv] at HST
       obtain⟨RW2,hRW2⟩: ∃ r_,r_=((([]:List S38) ++ LL0.map (fun i=>(⟨i,false⟩:S38))) ++ (LL1.take (j+1)).map (fun i=>(⟨i,true⟩:S38))):=⟨_,rfl⟩
       rw[← hRW2] at HST
       have HRW2:=Aside0.mk hRW2
       clear hRW2
       rw[← hxv] at hxj
       rw[← hRW] at HO
       have HRW:=Aside0.mk hRW
       have HXV:=Aside0.mk hxv
       clear hRW hxv
       obtain⟨oki,c_,_,hM_,hcc_,_,_,hH_⟩:=Kd.S_elem HO.out [] (k:Int) pk qk
       obtain⟨vr,rfl,hR_⟩:=hM_
       rw[show ((rowsAt l0_2 n0 k).set k RW).getD (k:Int).toNat []=RW from rd_set (rowsAt l0_2 n0 k) k RW (by rw[rowsAt_len];exact hlt)] at hR_
       obtain⟨Ar,cr,er⟩:=Kd.R_slice hR_
       subst er
       have hx4:=hcc_ 0 _ rfl
       rw[show ((Kd.slice 38 k38)).sz=1 from rfl,Nat.mul_one,Nat.add_zero,Int.toNat_natCast] at hx4
       have UU:=Aside0.mk hR_
       have HH:=Aside0.mk hH_
       clear hcc_ hR_ hH_
       have hx5:wr.cell? ⟨gb5,4,none⟩=some (.slice (some ⟨go,0,none⟩) n0 co):=(blk_cell BK5.out 4).trans rfl
       go_wp2_with fail
       refine start_ (n:=14) (S:=fun w'=>w'.cell? ⟨gb5,4,none⟩=some (.slice (some ⟨go,0,none⟩) n0 co)∧w'.cell? ⟨go,k,none⟩=some (.slice Ar RW.length cr)) (ds:=[13]) #[false,false,false,false,false,false,false,false,false,false,false,false,false,false] (by kernel_rfl) rfl rfl ⟨hx5,hx4⟩ (fun hHeld=> ?_)
       have m0_:=Aside0.mk (below_drew HB.out)
       have m1_:=Aside0.mk ((show wr.drew.heap[gb111]? =_ from BK111.out))
       have m2_:=Aside0.mk ((show wr.drew.heap[gb4]? =_ from BK4.out))
       have m3_:=Aside0.mk ((show wr.drew.heap[gb5]? =_ from BK5.out))
       have m4_:=Aside0.mk (Kd.S_drew Hv21.out)
       have m5_:=Aside0.mk (Kd.S_drew Hv23.out)
       have m6_:=Aside0.mk (Kd.R_drew HLL1.out)
       have m7_:=Aside0.mk (Kd.R_drew UU.out)
       have m8_:=Aside0.mk (Kd.H_drew HH.out)
       clear HB BK111 BK4 BK5 Hv21 Hv23 HLL1 UU HH
       have HB:=m0_
       clear m0_
       have BK111:=m1_
       clear m1_
       have BK4:=m2_
       clear m2_
       have BK5:=m3_
       clear m3_
       have Hv21:=m4_
       clear m4_
       have Hv23:=m5_
       clear m5_
       have HLL1:=m6_
       clear m6_
       have UU:=m7_
       clear m7_
       have HH:=m8_
       clear m8_
       clear HO hxj hx5 hx4
       generalize wr.drew=w14 at HB BK111 BK4 BK5 Hv21 Hv23 HLL1 UU HH hHeld ⊢
       refine pure_ (i:=0) (N:=some 61) (v:= ?_) (a':= ?_) #[true,false,false,false,false,false,false,false,false,false,false,false,false,false] rfl rfl (by kernel_rfl) (fun _ _ _ h=>h) (Or.inl ⟨by rfl,?_⟩) ?_ ?_
       rotate_left
       ·intro w'
        go_simp
        with_reducible rfl
       rotate_left
       ·simp only[Act.put,List.setIfInBounds_toArray,List.set_cons_zero,List.set_cons_succ,i64_w,i32_w]
        rfl
       refine pure_ (i:=2) (N:=some 63) (v:= ?_) (a':= ?_) #[true,false,true,false,false,false,false,false,false,false,false,false,false,false] rfl rfl (by kernel_rfl) (fun _ _ _ h=>h) (Or.inl ⟨by rfl,?_⟩) ?_ ?_
       rotate_left
       ·intro w'
        go_simp
        with_reducible rfl
       rotate_left
       ·simp only[Act.put,List.setIfInBounds_toArray,List.set_cons_zero,List.set_cons_succ,i64_w,i32_w]
        rfl
       refine pure_ (i:=3) (N:=some 64) (v:= ?_) (a':= ?_) #[true,false,true,true,false,false,false,false,false,false,false,false,false,false] rfl rfl (by kernel_rfl) (fun _ _ _ h=>h) (Or.inl ⟨by rfl,?_⟩) ?_ ?_
       rotate_left
       ·intro w'
        go_simp
        with_reducible rfl
       rotate_left
       ·simp only[Act.put,List.setIfInBounds_toArray,List.set_cons_zero,List.set_cons_succ,i64_w,i32_w]
        rfl
       refine pure_ (i:=5) (N:=some 66) (v:= ?_) (a':= ?_) #[true,false,true,true,false,true,false,false,false,false,false,false,false,false] rfl rfl (by kernel_rfl) (fun _ _ _ h=>h) (Or.inl ⟨by rfl,?_⟩) ?_ ?_
       rotate_left
       ·intro w'
        go_simp
        with_reducible rfl
       rotate_left
       ·simp only[Act.put,List.setIfInBounds_toArray,List.set_cons_zero,List.set_cons_succ,i64_w,i32_w]
        rfl
       refine pure_ (i:=8) (N:=some 69) (v:= ?_) (a':= ?_) #[true,false,true,true,false,true,false,false,true,false,false,false,false,false] rfl rfl (by kernel_rfl) (fun _ _ _ h=>h) (Or.inl ⟨by rfl,?_⟩) ?_ ?_
       rotate_left
       ·intro w'
        go_simp
        with_reducible rfl
       rotate_left
       ·simp only[Act.put,List.setIfInBounds_toArray,List.set_cons_zero,List.set_cons_succ,i64_w,i32_w]
        rfl
       refine pure_ (i:=9) (N:=some 70) (v:= ?_) (a':= ?_) #[true,false,true,true,false,true,false,false,true,true,false,false,false,false] rfl rfl (by kernel_rfl) (fun _ _ _ h=>h) (Or.inl ⟨by rfl,?_⟩) ?_ ?_
       rotate_left
       ·intro w'
        go_simp
        with_reducible rfl
       rotate_left
       ·simp only[Act.put,List.setIfInBounds_toArray,List.set_cons_zero,List.set_cons_succ,i64_w,i32_w]
        rfl
       refine take_ (i:=1) (N:=some 62) (v:= ?_) (a':= ?_) #[true,true,true,true,false,true,false,false,true,true,false,false,false,false] rfl rfl (by kernel_rfl) (fun _ _ _ h=>h) (Or.inl ⟨by rfl,?_⟩) hHeld ?_ ?_
       rotate_left
       ·rintro w' ⟨s0,s1⟩
        go_simp
        with_reducible rfl
       rotate_left
       ·simp only[Act.put,List.setIfInBounds_toArray,List.set_cons_zero,List.set_cons_succ,i64_w,i32_w]
        rfl
       refine take_ (i:=4) (N:=some 65) (v:= ?_) (a':= ?_) #[true,true,true,true,true,true,false,false,true,true,false,false,false,false] rfl rfl (by kernel_rfl) (fun _ _ _ h=>h) (Or.inl ⟨by rfl,?_⟩) hHeld ?_ ?_
       rotate_left
       ·rintro w' ⟨s0,s1⟩
        go_simp
        with_reducible rfl
       rotate_left
       ·simp only[Act.put,List.setIfInBounds_toArray,List.set_cons_zero,List.set_cons_succ,i64_w,i32_w]
        rfl
       refine pure_ (i:=6) (N:=some 67) (v:= ?_) (a':= ?_) #[true,true,true,true,true,true,true,false,true,true,false,false,false,false] rfl rfl (by kernel_rfl) (fun _ _ _ h=>h) (Or.inl ⟨by rfl,?_⟩) ?_ ?_
       rotate_left
       ·intro w'
        go_simp
        with_reducible rfl
       rotate_left
       ·simp only[Act.put,List.setIfInBounds_toArray,List.set_cons_zero,List.set_cons_succ,i64_w,i32_w]
        rfl
       refine take_ (i:=7) (N:=some 68) (v:= ?_) (a':= ?_) #[true,true,true,true,true,true,true,true,true,true,false,false,false,false] rfl rfl (by kernel_rfl) (fun _ _ _ h=>h) (Or.inl ⟨by rfl,?_⟩) hHeld ?_ ?_
       rotate_left
       ·rintro w' ⟨s0,s1⟩
        go_simp
        with_reducible rfl
       rotate_left
       ·simp only[Act.put,List.setIfInBounds_toArray,List.set_cons_zero,List.set_cons_succ,i64_w,i32_w]
        rfl
       refine one_ (i:=10) (N:=some 71) #[true,true,true,true,true,true,true,true,true,true,true,false,false,false] rfl rfl (by kernel_rfl) (by decide) (fun K hK=> ?_)
       refine value_ (w1:= ?_) (v:= ?_) (by rfl) rfl ?_ ?_
       rotate_left 2
       ·go_simp
        constructor
        ·rfl
        ·rfl
       refine hK.out _ _ ⟨(blk_cell (blk_alloc BK5.out _) 4).trans rfl,(World.cell?_alloc_lt _ _ _ (World.block_lt_of_cell? _ _ hHeld.2)).trans hHeld.2⟩ (fun hHeld2=> ?_)
       clear hK K hHeld2
       refine norm_ (a':= ?_) ?_ ?_
       rotate_left
       ·show Act.put _ (some 71) _=_
        simp only[Act.put,List.setIfInBounds_toArray,List.set_cons_zero,List.set_cons_succ,i64_w,i32_w]
        rfl
       refine one_ (i:=11) (N:=some 72) #[true,true,true,true,true,true,true,true,true,true,true,true,false,false] rfl rfl (by kernel_rfl) (by decide) (fun K hK=> ?_)
       refine Kd.R_append_step k38 (w0:=w) w.heap.size (by rfl) (.tmp 68) (.tmp 71) 34 38 (.agg #[(.int .i64 0),(.bool false)]) 16 rfl Try.underlying34 info38 rfl (by decide) (by omega) (.slice Ar RW.length cr) RW (⟨xj,true⟩:S38) [.int .i64 xj, .bool true] (fun k_=>oki k_∨((fun _=>True)) k_∧w14.heap.size≤k_) (fun _=>False) rfl rfl ?aP (fun _ hk=>hk.elim) ?aF ?aO ?aB ?aS ?aL ?_
       (case aP=>exact k38_mkM _ _ _ (⟨xj,true⟩:S38))
       (case aF=>exact fun k_ hk=> .inr ⟨trivial,hk⟩)
       (case aO=>exact Kd.R_mono UU.out (fun _ hk=> .inl hk))
       (case aB=>exact HB.out)
       (case aS=>exact HB.out.size)
       (case aL=>have:=HRL.out;omega)
       intro v_ w16 ho hb hg hat
       clear hat
       have m0_:=Aside0.mk (blk_grown BK111.out hg (Kd.R_ne UU.out BK111.out (by decide)))
       have m1_:=Aside0.mk (blk_grown BK4.out hg (Kd.R_ne UU.out BK4.out (by decide)))
       have m2_:=Aside0.mk (blk_grown BK5.out hg (Kd.R_ne UU.out BK5.out (by decide)))
       have m3_:=Aside0.mk (Kd.S_over' Hv21.out (Kd.R_typed UU.out) (by decide) hg)
       have m4_:=Aside0.mk (Kd.S_over' Hv23.out (Kd.R_typed UU.out) (by decide) hg)
       have m5_:=Aside0.mk (Kd.R_over' HLL1.out (Kd.R_typed UU.out) (by decide) hg)
       have m6_:=Aside0.mk (Kd.H_grown (Kd.H_widen HH.out) hg (fun k_ e_=> .inl (UU.out.1 k_ e_)))
       have m7_:=Aside0.mk (hb)
       have m8_:=Aside0.mk (ho)
       clear BK111 BK4 BK5 Hv21 Hv23 HLL1 HH HB UU
       have BK111:=m0_
       clear m0_
       have BK4:=m1_
       clear m1_
       have BK5:=m2_
       clear m2_
       have Hv21:=m3_
       clear m3_
       have Hv23:=m4_
       clear m4_
       have HLL1:=m5_
       clear m5_
       have HH:=m6_
       clear m6_
       have HB:=m7_
       clear m7_
       have UU:=m8_
       clear m8_
       rw[← HST.out] at UU
       obtain⟨A2,c2,e2⟩:=Kd.R_slice UU.out
       subst e2
       obtain⟨_,_,hraw,_,_,hcc_,_⟩:=Kd.H_raw HH.out pk qk
       obtain⟨_,hfr_⟩:=Kd.H_at HH.out pk qk
       have hx4:=hcc_ 0 _ rfl
       have hf4:=hfr_ 0
       rw[show ((Kd.slice 38 k38)).sz=1 from rfl,Nat.mul_one,Nat.add_zero,Int.toNat_natCast] at hx4 hf4
       have HRAW:=Aside0.mk hraw
       clear hcc_ hfr_ hraw ho hb hg
       refine hK.out _ _ ⟨(blk_cell BK5.out 4).trans rfl,hx4⟩ (fun hHeld=> ?_)
       clear hK K
       refine norm_ (a':= ?_) ?_ ?_
       rotate_left
       ·show Act.put _ (some 72) _=_
        simp only[Act.put,List.setIfInBounds_toArray,List.set_cons_zero,List.set_cons_succ,i64_w,i32_w]
        rfl
       refine pure_ (i:=12) (N:=some 73) (v:= ?_) (a':= ?_) #[true,true,true,true,true,true,true,true,true,true,true,true,true,false] rfl rfl (by kernel_rfl) (fun _ _ _ h=>h) (Or.inl ⟨by rfl,?_⟩) ?_ ?_
       rotate_left
       ·intro w'
        go_simp
        with_reducible rfl
       rotate_left
       ·simp only[Act.put,List.setIfInBounds_toArray,List.set_cons_zero,List.set_cons_succ,i64_w,i32_w]
        rfl
       have HP:=Kd.S_seg0 HH.out pk qk (seg:=[.slice A2 RW2.length c2]) (j:=0) (show 1≤1 from by decide) (x':=RW2) (Kd.M_row UU.out) (fun _ hk=>hk)
       rw[show ((Kd.slice 38 k38)).sz=1 from rfl,Nat.mul_one,Nat.add_zero,Int.toNat_natCast,List.set_set] at HP
       have HG2:w16.grownBy (w16.setCell ⟨go,k,none⟩ (.slice A2 RW2.length c2)) (some go):=HP.2
       have HO:=Aside0.mk (show Kd.S (Kd.slice 38 k38) 34 (w16.setCell ⟨go,k,none⟩ (.slice A2 RW2.length c2)) w.heap.size (fun _=>True) (.slice (some ⟨go,0,none⟩) n0 co) ((rowsAt l0_2 n0 k).set k RW2) from HP.1)
       refine last_ (i:=13) (N:=none) #[true,true,true,true,true,true,true,true,true,true,true,true,true,true] rfl rfl (by kernel_rfl) (by decide) (fun K hK=> ?_)
       refine skip_ (w1:=w16.setCell ⟨go,k,none⟩ (.slice A2 RW2.length c2)) (by rfl) rfl ?_ ?_
       ·go_simp
       refine hK.out _ _ ?_
       clear hK K
       have m0_:=Aside0.mk (blk_grown BK111.out HG2 (Kd.R_ne HRAW.out BK111.out (by decide)))
       have m1_:=Aside0.mk (blk_grown BK4.out HG2 (Kd.R_ne HRAW.out BK4.out (by decide)))
       have m2_:=Aside0.mk (blk_grown BK5.out HG2 (Kd.R_ne HRAW.out BK5.out (by decide)))
       have m3_:=Aside0.mk (Kd.S_over' Hv21.out (Kd.R_typed HRAW.out) (by decide) HG2)
       have m4_:=Aside0.mk (Kd.S_over' Hv23.out (Kd.R_typed HRAW.out) (by decide) HG2)
       have m5_:=Aside0.mk (Kd.R_over' HLL1.out (Kd.R_typed HRAW.out) (by decide) HG2)
       have m6_:=Aside0.mk ((below_set HB.out GBO.out:Below w.heap.size w (w16.setCell ⟨go,k,none⟩ (.slice A2 RW2.length c2))))
       clear BK111 BK4 BK5 Hv21 Hv23 HLL1 HB
       have BK111:=m0_
       clear m0_
       have BK4:=m1_
       clear m1_
       have BK5:=m2_
       clear m2_
       have Hv21:=m3_
       clear m3_
       have Hv23:=m4_
       clear m4_
       have HLL1:=m5_
       clear m5_
       have HB:=m6_
       clear m6_
       clear HP HG2 HRAW UU HH hHeld hx4 hf4
       refine done_ (by kernel_rfl) ?_
       generalize w16.setCell ⟨go,k,none⟩ (.slice A2 RW2.length c2)=w17 at HO BK111 BK4 BK5 Hv21 Hv23 HLL1 HB ⊢
       rw[HRW2.out] at HO
       clear HRW2 HST HRW
       go_wp2_with fail
       go_roundw
       case rel=>exact⟨j+1,by omega,by first|rfl|go_num,HO,BK111,BK4,BK5,Hv21,Hv23,HLL1,HB⟩
       case measure=>simp[intOf]<;>omega
      ·have ej:j=LL1.length:=by omega
       subst ej
       rw[List.take_length] at HO
       have cj:decide ((LL1.length:Int)<(LL1.length:Int))=false:=decide_eq_false (by omega)
       obtain⟨RW,hRW⟩: ∃ r_,r_=((([]:List S38) ++ LL0.map (fun i=>(⟨i,false⟩:S38))) ++ LL1.map (fun i=>(⟨i,true⟩:S38))):=⟨_,rfl⟩
       have HRU:Aside0 (RW=stepsU l0_2 n0 (k:Int)):=⟨by rw[hRW,HELL0.out,HELL1.out,HL0.out,HL1.out];rfl⟩
       have HRL:Aside0 (RW.length≤1000000):=⟨by rw[hRW];simp;have:=HLE0.out;have:=HLE1.out;omega⟩
       rw[← hRW] at HO
       clear hRW
       obtain⟨oki,c_,_,hM_,hcc_,_,_,hH_⟩:=Kd.S_elem HO.out [] (k:Int) pk qk
       obtain⟨vr,rfl,hR_⟩:=hM_
       rw[show ((rowsAt l0_2 n0 k).set k RW).getD (k:Int).toNat []=RW from rd_set (rowsAt l0_2 n0 k) k RW (by rw[rowsAt_len];exact hlt)] at hR_
       obtain⟨Ar,cr,er⟩:=Kd.R_slice hR_
       subst er
       have hx4:=hcc_ 0 _ rfl
       rw[show ((Kd.slice 38 k38)).sz=1 from rfl,Nat.mul_one,Nat.add_zero,Int.toNat_natCast] at hx4
       have UU:=Aside0.mk hR_
       have HH:=Aside0.mk hH_
       clear hcc_ hR_ hH_
       have hx5:wr.cell? ⟨gb5,4,none⟩=some (.slice (some ⟨go,0,none⟩) n0 co):=(blk_cell BK5.out 4).trans rfl
       have HEN:Aside0 (ends l0_2 n0):=⟨fun i hi=>⟨HE0.out i hi,HE1.out i hi⟩⟩
       go_wp2_with (first|(go_at_call 143;refine(sort_row HH.out UU.out HRU.out hlt HEN.out (by omega) HRL.out).mono ?_;rintro e_ w20 ⟨rfl,vv,hg,hty,hS⟩;rw[List.set_set,rowsAt_set l0_2 n0 k hlt] at hS;have m0_:=Aside0.mk (blk_grown BK111.out hg (fun he=>by obtain⟨_,cells_,hc_⟩:=hty _ he.symm;have t_:=BK111.out.symm.trans hc_;simp at t_));have m1_:=Aside0.mk (blk_grown BK4.out hg (fun he=>by obtain⟨_,cells_,hc_⟩:=hty _ he.symm;have t_:=BK4.out.symm.trans hc_;simp at t_));have m2_:=Aside0.mk (blk_grown BK5.out hg (fun he=>by obtain⟨_,cells_,hc_⟩:=hty _ he.symm;have t_:=BK5.out.symm.trans hc_;simp at t_));have m3_:=Aside0.mk (Kd.S_over' (v:=vv) Hv21.out (fun k_ hk_=>(hty k_ hk_).2) (by decide) hg);have m4_:=Aside0.mk (Kd.S_over' (v:=vv) Hv23.out (fun k_ hk_=>(hty k_ hk_).2) (by decide) hg);have m5_:=Aside0.mk (HB.out.grown hg HB.out.size (fun k_ hk_=>(hty k_ hk_).1));have m6_:=Aside0.mk hS;clear hg hty hS HO BK111 BK4 BK5 Hv21 Hv23 HLL1 HB UU HH hx4 hx5;have HO:=m6_;have BK111:=m0_;have BK4:=m1_;have BK5:=m2_;have Hv21:=m3_;have Hv23:=m4_;have HB:=m5_;clear m0_ m1_ m2_ m3_ m4_ m5_ m6_)|fail)
       go_roundw
       case rel=>exact⟨k+1,by omega,by first|rfl|go_num,HO,BK111,BK4,BK5,Hv21,Hv23,HB⟩
       case measure=>simp[intOf]<;>omega
  ·have ek:n0=k:=by omega
   subst ek
   have hx0:wr.cell? ⟨gb5,0,none⟩=some (.int .i64 (n0:Int)):=(blk_cell BK5.out 0).trans rfl
   have hx1:wr.cell? ⟨gb5,1,none⟩=some (.bool a0_1):=(blk_cell BK5.out 1).trans rfl
   have hx2:wr.cell? ⟨gb5,2,none⟩=some (.slice A0_2 l0_2.length c0_2):=(blk_cell BK5.out 2).trans rfl
   have hx3:wr.cell? ⟨gb5,3,none⟩=some (.slice A1 n1 c1):=(blk_cell BK5.out 3).trans rfl
   have hx4:wr.cell? ⟨gb5,4,none⟩=some (.slice Ao n0 co):=(blk_cell BK5.out 4).trans rfl
   have hy0:wr.cell? ⟨gb4,0,none⟩=some (.int .i64 0):=(blk_cell BK4.out 0).trans rfl
   have hf0:=blk_frozen BK4.out 0
   have hy1:wr.cell? ⟨gb4,1,none⟩=some (.bool false):=(blk_cell BK4.out 1).trans rfl
   have hf1:=blk_frozen BK4.out 1
   have hy2:wr.cell? ⟨gb4,2,none⟩=some (.slice none 0 0):=(blk_cell BK4.out 2).trans rfl
   have hf2:=blk_frozen BK4.out 2
   have hy3:wr.cell? ⟨gb4,3,none⟩=some (.slice none 0 0):=(blk_cell BK4.out 3).trans rfl
   have hf3:=blk_frozen BK4.out 3
   have hy4:wr.cell? ⟨gb4,4,none⟩=some (.slice none 0 0):=(blk_cell BK4.out 4).trans rfl
   have hf4:=blk_frozen BK4.out 4
   have GE4':=GE4.out
   go_wp2
   refine bodyPost_ret (results_cell_row rfl _ _ gb4 118 #[.int .i64 (n0:Int), .bool a0_1, .slice A0_2 l0_2.length c0_2, .slice A1 n1 c1, .slice Ao n0 co] (0,0) _ rfl (by refine blk_put (cs:= #[.int .i64 (n0:Int), .bool a0_1, .slice A0_2 l0_2.length c0_2, .slice A1 n1 c1, .slice none 0 0]) ?_ 4 _ rfl;refine blk_put (cs:= #[.int .i64 (n0:Int), .bool a0_1, .slice A0_2 l0_2.length c0_2, .slice none 0 0, .slice none 0 0]) ?_ 3 _ rfl;refine blk_put (cs:= #[.int .i64 (n0:Int), .bool a0_1, .slice none 0 0, .slice none 0 0, .slice none 0 0]) ?_ 2 _ rfl;refine blk_put (cs:= #[.int .i64 (n0:Int), .bool false, .slice none 0 0, .slice none 0 0, .slice none 0 0]) ?_ 1 _ rfl;refine blk_put (cs:= #[.int .i64 0, .bool false, .slice none 0 0, .slice none 0 0, .slice none 0 0]) ?_ 0 _ rfl;exact BK4.out) Try.underlying118 rfl (by kernel_rfl)) rfl ?_
   exact⟨_,rfl,Kd.S_mono (Kd.S_far (p:=⟨gb4,4,none⟩) (Kd.S_far (p:=⟨gb4,3,none⟩) (Kd.S_far (p:=⟨gb4,2,none⟩) (Kd.S_far (p:=⟨gb4,1,none⟩) (Kd.S_far (p:=⟨gb4,0,none⟩) (Kd.S_types HO.out BK4.out (by decide)) (fun _ hk=>hk.2) (.int .i64 (n0:Int))) (fun _ hk=>hk.2) (.bool a0_1)) (fun _ hk=>hk.2) (.slice A0_2 l0_2.length c0_2)) (fun _ hk=>hk.2) (.slice A1 n1 c1)) (fun _ hk=>hk.2) (.slice Ao n0 co)) (fun _ _=>trivial),by repeat(first|exact HB.out|refine below_set ?_ GE4.out)⟩
end H
namespace H
open Go.RowKit Go.Proofs.YtkcpanpdipmmmaaW.PrintWords Go.Proofs.YtkcpanpdipmmmaaW.PrintLast Go.Proofs.YtkcpanpdipmmmaaW.PrintMore P
theorem heap74:Kd.Heap k74:=Kd.heap_iso _ (Kd.heap_pair (Kd.heap_int _) (Kd.heap_pair (Kd.heap_int _) (Kd.heap_pair (Kd.heap_int _) (Kd.heap_int _))))
def startR (n s:Nat):Rch:=⟨List.replicate n 0,(List.replicate n false).set s true,List.replicate n z38,false⟩
theorem startR_ok (n s:Nat):(startR n s).Ok n:=⟨by simp[startR],by simp[startR],by simp[startR]⟩
theorem bd_zero (n:Nat):Bd (List.replicate n 0) 0:=by
 intro v
 have:(List.replicate n (0:Int)).getD v 0=0:=by
  rw[List.getD_eq_getElem?_getD,List.getElem?_replicate]
  split<;>rfl
 rw[this]
 omega
set_option maxHeartbeats 2000000 in
set_option maxRecDepth 100000 in
theorem from_calls (n0:Nat) (Zb:Bool) (A2:Option Addr) (c2:Nat) (l:List S74) (A1:Option Addr) (c1:Nat) (F:List Int) (s:Nat) (w:World) (hR:Right l F n0) (hs:s<n0) (h2:Kd.C k74 w A2 l.length l) (hc2:l.length≤c2) (h3:Kd.C (Kd.int .i64) w A1 F.length F) (hc1:F.length≤c1):
  Calls Try.prog 97 #[.agg #[.int .i64 n0, .bool Zb, .slice A2 l.length c2], .slice A1 F.length c1, .int .i64 s] w fun e w'=> ∃ v0 v1 v2:Value,e= .returned (.tuple #[.agg #[v0,v1,v2], .bool (goesR l F n0 (n0+1) (startR n0 s)).2])∧
   Kd.R (Kd.int .i64) 3 w' w.heap.size (fun _=>True) v0 (goesR l F n0 (n0+1) (startR n0 s)).1.D∧Kd.R Kd.bool 4 w' w.heap.size (fun _=>True) v1 (goesR l F n0 (n0+1) (startR n0 s)).1.I∧Kd.R k38 38 w' w.heap.size (fun _=>True) v2 (goesR l F n0 (n0+1) (startR n0 s)).1.B∧Below w.heap.size w w':=by
 obtain⟨XT,hXT⟩: ∃ y_,y_=goesR l F n0 (n0+1) (startR n0 s):=⟨_,rfl⟩
 rw[← hXT]
 have HXT:=Aside0.mk hXT
 clear hXT
 have hu24:=Try.underlying24
 have hu109:=Try.underlying109
 have hu118:=Try.underlying118
 have hn0:0<n0:=hR.pos
 have hn50:n0≤50:=hR.fifty
 have HR:=Aside0.mk hR
 have H2:=Aside0.mk h2
 have H3:=Aside0.mk h3
 have HC2:=Aside0.mk hc2
 have HC1:=Aside0.mk hc1
 clear hR h2 h3 hc2 hc1
 have HB:=Aside0.mk (Below.refl w.heap.size w)
 go_enter Try.func97,Try.ntmps97
 go_wp2_with (first|((with_reducible refine gate_dst (N:=3) rfl ?_);refine box_event ?hg (N:=3) ?hd (cs:= #[.int .i64 n0, .bool Zb, .slice A2 l.length c2]) (t:=24) ?hr ?_;(case hd=>rfl);(case hg=>rfl);(case hr=>first|(go_simp;done)|(go_simp;rfl));intro g3 hg w4 Zf hb;have n0_:=Aside0.mk (below_step HB.out hb);have B3:=Aside0.mk Zf;clear HB;have HB:=n0_;clear n0_ hb Zf hg;have hb0:w4.cell? ⟨g3,0,none⟩=some (.int .i64 n0):=(blk_cell B3.out 0).trans rfl;have hb1:w4.cell? ⟨g3,1,none⟩=some (.bool Zb):=(blk_cell B3.out 1).trans rfl;have hb2:w4.cell? ⟨g3,2,none⟩=some (.slice A2 l.length c2):=(blk_cell B3.out 2).trans rfl)|((with_reducible refine gate_dst (N:=6) rfl ?_);refine box_event ?hg (N:=6) ?hd (cs:= #[.slice none 0 0, .slice none 0 0, .slice none 0 0]) (t:=109) ?hr ?_;(case hd=>rfl);(case hg=>rfl);(case hr=>first|(go_simp;done)|(go_simp;rfl));intro g6 hg w5 Zf hb;have GE6:Aside0 (w.heap.size≤g6):=⟨by rw[hg];exact HB.out.size⟩;have n0_:=Aside0.mk (below_step HB.out hb);have n1_:=Aside0.mk (blk_below B3.out hb);have B6:=Aside0.mk Zf;clear HB B3 hb0 hb1 hb2;have HB:=n0_;have B3:=n1_;clear n0_ n1_ hb Zf hg;have hb0:w5.cell? ⟨g3,0,none⟩=some (.int .i64 n0):=(blk_cell B3.out 0).trans rfl;have hb1:w5.cell? ⟨g3,1,none⟩=some (.bool Zb):=(blk_cell B3.out 1).trans rfl;have hb2:w5.cell? ⟨g3,2,none⟩=some (.slice A2 l.length c2):=(blk_cell B3.out 2).trans rfl)|(go_at_call 101;refine(at_calls n0 Zb A2 c2 l A1 c1 F.length _ (Kd.C_below H2.out HB.out) HC2.out (by omega) (by omega) (by have:=HR.out.arcs;omega) (fun k hk=>(HR.out.ends k hk).1) (fun k hk=>(HR.out.ends k hk).2)).mono ?_;rintro e_ w6 ⟨vr,rfl,hS,hb⟩;obtain⟨A4,c4,e4⟩:=Kd.S_slice hS;subst e4;rw[rowsAt_len];have n0_:=Aside0.mk (below_step HB.out hb);have n1_:=Aside0.mk (blk_below B3.out hb);have n2_:=Aside0.mk (blk_below B6.out hb);have HS:=Aside0.mk hS;have HSZ:Aside0 (w.heap.size≤w5.heap.size):=⟨HB.out.size⟩;clear HB B3 B6 hb0 hb1 hb2;have HB:=n0_;have B3:=n1_;have B6:=n2_;clear n0_ n1_ n2_ hb hS)|((with_reducible refine gate_dst (N:=8) rfl ?_);refine box_event ?hg (N:=8) ?hd (cs:= #[.int .i64 0, .bool false, .slice none 0 0, .slice none 0 0, .slice none 0 0]) (t:=118) ?hr ?_;(case hd=>rfl);(case hg=>rfl);(case hr=>first|(go_simp;done)|(go_simp;rfl));intro g8 hg w7 Zf hb;have GE8:Aside0 (w.heap.size≤g8):=⟨by rw[hg];exact HB.out.size⟩;have n0_:=Aside0.mk (below_step HB.out hb);have n1_:=Aside0.mk (blk_below B3.out hb);have n2_:=Aside0.mk (blk_below B6.out hb);have n3_:=Aside0.mk (Kd.S_below HS.out hb);have B8:=Aside0.mk Zf;have HNE:Aside0 (g3≠g8∧g6≠g8):=⟨by rw[hg];exact⟨Nat.ne_of_lt (blk_lt B3.out),Nat.ne_of_lt (blk_lt B6.out)⟩⟩;clear HB B3 B6 HS;have HB:=n0_;have B3:=n1_;have B6:=n2_;have HS:=n3_;clear n0_ n1_ n2_ n3_ hb Zf hg;have hz0:w7.cell? ⟨g8,0,none⟩=some (.int .i64 0):=(blk_cell B8.out 0).trans rfl;have hz1:w7.cell? ⟨g8,1,none⟩=some (.bool false):=(blk_cell B8.out 1).trans rfl;have hz2:w7.cell? ⟨g8,2,none⟩=some (.slice none 0 0):=(blk_cell B8.out 2).trans rfl;have hz3:w7.cell? ⟨g8,3,none⟩=some (.slice none 0 0):=(blk_cell B8.out 3).trans rfl;have hz4:w7.cell? ⟨g8,4,none⟩=some (.slice none 0 0):=(blk_cell B8.out 4).trans rfl;have hf0:=blk_frozen B8.out 0;have hf1:=blk_frozen B8.out 1;have hf2:=blk_frozen B8.out 2;have hf3:=blk_frozen B8.out 3;have hf4:=blk_frozen B8.out 4)|((with_reducible refine gate_store (t:=118) (p:=8) rfl ?_);refine store_event (t:=118) (p:=8) (v:= ?vo) (w1:=(((((w7.setCell ⟨g8,0,none⟩ (.int .i64 n0)).setCell ⟨g8,1,none⟩ (.bool Zb)).setCell ⟨g8,2,none⟩ (.slice A2 l.length c2)).setCell ⟨g8,3,none⟩ (.slice A1 F.length c1)).setCell ⟨g8,4,none⟩ (.slice A4 n0 c4))) ?hg ?ho ?hn ?hr ?_;(case ho=>rfl);(case hg=>rfl);(case hn=>rfl);(case hr=>first|(go_simp;done)|(go_simp;rfl));intro w9 hw;have m0_:Aside0 (w9.heap[g8]? =some (.cells #[.int .i64 n0, .bool Zb, .slice A2 l.length c2, .slice A1 F.length c1, .slice A4 n0 c4] 118 (0,0))):=⟨by rw[hw];exact blk_put (blk_put (blk_put (blk_put (blk_put (B8.out) 0 _ rfl) 1 _ rfl) 2 _ rfl) 3 _ rfl) 4 _ rfl⟩;have m1_:Aside0 (w9.heap[g3]? =some (.cells #[.int .i64 n0, .bool Zb, .slice A2 l.length c2] 24 (0,0))):=⟨by rw[hw];exact blk_far (blk_far (blk_far (blk_far (blk_far (B3.out) HNE.out.1 _) HNE.out.1 _) HNE.out.1 _) HNE.out.1 _) HNE.out.1 _⟩;have m2_:Aside0 (w9.heap[g6]? =some (.cells #[.slice none 0 0, .slice none 0 0, .slice none 0 0] 109 (0,0))):=⟨by rw[hw];exact blk_far (blk_far (blk_far (blk_far (blk_far (B6.out) HNE.out.2 _) HNE.out.2 _) HNE.out.2 _) HNE.out.2 _) HNE.out.2 _⟩;have m3_:Aside0 (Below w.heap.size w w9):=⟨by rw[hw];exact below_set (below_set (below_set (below_set (below_set (HB.out) GE8.out) GE8.out) GE8.out) GE8.out) GE8.out⟩;have m4_:Aside0 (Kd.S (Kd.slice 38 k38) 34 w9 w5.heap.size (fun _=>True) (.slice A4 n0 c4) (rowsAt l n0 n0)):=⟨by rw[hw];rw[rowsAt_len] at HS;exact Kd.S_set (Kd.S_set (Kd.S_set (Kd.S_set (Kd.S_set (HS.out) (B8.out) (by decide) 0 (.int .i64 n0)) (blk_put (B8.out) 0 (.int .i64 n0) rfl) (by decide) 1 (.bool Zb)) (blk_put (blk_put (B8.out) 0 (.int .i64 n0) rfl) 1 (.bool Zb) rfl) (by decide) 2 (.slice A2 l.length c2)) (blk_put (blk_put (blk_put (B8.out) 0 (.int .i64 n0) rfl) 1 (.bool Zb) rfl) 2 (.slice A2 l.length c2) rfl) (by decide) 3 (.slice A1 F.length c1)) (blk_put (blk_put (blk_put (blk_put (B8.out) 0 (.int .i64 n0) rfl) 1 (.bool Zb) rfl) 2 (.slice A2 l.length c2) rfl) 3 (.slice A1 F.length c1) rfl) (by decide) 4 (.slice A4 n0 c4)⟩;clear hw B8 B3 B6 HB HS HNE hz0 hz1 hz2 hz3 hz4 hf0 hf1 hf2 hf3 hf4;have B8:=m0_;have B3:=m1_;have B6:=m2_;have HB:=m3_;have HS:=m4_;clear m0_ m1_ m2_ m3_ m4_;have hb0:w9.cell? ⟨g3,0,none⟩=some (.int .i64 n0):=(blk_cell B3.out 0).trans rfl)|fail)
 refine start_ (n:=12) (S:=fun w'=>w'.cell? ⟨g3,0,none⟩=some (.int .i64 n0)) (ds:=[11]) #[false,false,false,false,false,false,false,false,false,false,false,false] (by kernel_rfl) rfl rfl hb0 (fun hHeld=> ?_)
 have m_HB:=Aside0.mk (below_step HB.out (below_drew (Below.refl _ _)))
 have m_B3:=Aside0.mk (blk_below B3.out (below_drew (Below.refl _ _)))
 have m_B6:=Aside0.mk (blk_below B6.out (below_drew (Below.refl _ _)))
 have m_B8:=Aside0.mk (blk_below B8.out (below_drew (Below.refl _ _)))
 have m_HS:=Aside0.mk (Kd.S_below HS.out (below_drew (Below.refl _ _)))
 clear hb0 HB B3 B6 B8 HS
 have HB:=m_HB
 clear m_HB
 have B3:=m_B3
 clear m_B3
 have B6:=m_B6
 clear m_B6
 have B8:=m_B8
 clear m_B8
 have HS:=m_HS
 clear m_HS
 generalize w9.drew=w14 at hHeld HB B3 B6 B8 HS ⊢
 have HV:=Aside0.mk (Kd.V_mono (Kd.V_bound (Kd.S_V (base':=0) HS.out)) (fun k hk=>hk.2) (ok':=fun k=>k<w14.heap.size))
 clear HS
 have S14:Aside0 (w.heap.size≤w14.heap.size):=⟨HB.out.size⟩
 have L3:Aside0 (g3<w14.heap.size):=⟨blk_lt B3.out⟩
 have L6:Aside0 (g6<w14.heap.size):=⟨blk_lt B6.out⟩
 have L8:Aside0 (g8<w14.heap.size):=⟨blk_lt B8.out⟩
 refine pure_ (i:=0) (N:=some 13) (v:= ?_) (a':= ?_) #[true,false,false,false,false,false,false,false,false,false,false,false] rfl rfl (by kernel_rfl) (fun _ _ _ h=>h) (Or.inl ⟨by rfl,?_⟩) ?_ ?_
 rotate_left
 ·intro w'
  go_simp
  with_reducible rfl
 rotate_left
 ·simp only[Act.put,List.setIfInBounds_toArray,List.set_cons_zero,List.set_cons_succ,i64_w,i32_w]
  rfl
 refine pure_ (i:=3) (N:=some 16) (v:= ?_) (a':= ?_) #[true,false,false,true,false,false,false,false,false,false,false,false] rfl rfl (by kernel_rfl) (fun _ _ _ h=>h) (Or.inl ⟨by rfl,?_⟩) ?_ ?_
 rotate_left
 ·intro w'
  go_simp
  with_reducible rfl
 rotate_left
 ·simp only[Act.put,List.setIfInBounds_toArray,List.set_cons_zero,List.set_cons_succ,i64_w,i32_w]
  rfl
 refine pure_ (i:=6) (N:=some 19) (v:= ?_) (a':= ?_) #[true,false,false,true,false,false,true,false,false,false,false,false] rfl rfl (by kernel_rfl) (fun _ _ _ h=>h) (Or.inl ⟨by rfl,?_⟩) ?_ ?_
 rotate_left
 ·intro w'
  go_simp
  with_reducible rfl
 rotate_left
 ·simp only[Act.put,List.setIfInBounds_toArray,List.set_cons_zero,List.set_cons_succ,i64_w,i32_w]
  rfl
 refine take_ (i:=1) (N:=some 14) (v:= ?_) (a':= ?_) #[true,true,false,true,false,false,true,false,false,false,false,false] rfl rfl (by kernel_rfl) (fun _ _ _ h=>h) (Or.inl ⟨by rfl,?_⟩) hHeld ?_ ?_
 rotate_left
 ·rintro w' s0
  go_simp
  with_reducible rfl
 rotate_left
 ·simp only[Act.put,List.setIfInBounds_toArray,List.set_cons_zero,List.set_cons_succ,i64_w,i32_w]
  rfl
 refine take_ (i:=4) (N:=some 17) (v:= ?_) (a':= ?_) #[true,true,false,true,true,false,true,false,false,false,false,false] rfl rfl (by kernel_rfl) (fun _ _ _ h=>h) (Or.inl ⟨by rfl,?_⟩) hHeld ?_ ?_
 rotate_left
 ·rintro w' s0
  go_simp
  with_reducible rfl
 rotate_left
 ·simp only[Act.put,List.setIfInBounds_toArray,List.set_cons_zero,List.set_cons_succ,i64_w,i32_w]
  rfl
 refine take_ (i:=7) (N:=some 20) (v:= ?_) (a':= ?_) #[true,true,false,true,true,false,true,true,false,false,false,false] rfl rfl (by kernel_rfl) (fun _ _ _ h=>h) (Or.inl ⟨by rfl,?_⟩) hHeld ?_ ?_
 rotate_left
 ·rintro w' s0
  go_simp
  with_reducible rfl
 rotate_left
 ·simp only[Act.put,List.setIfInBounds_toArray,List.set_cons_zero,List.set_cons_succ,i64_w,i32_w]
  rfl
 refine join_ (σ:=Value × Value × Value × Nat) 1 #[true,true,true,true,true,true,true,true,true,true,true,false] (fun s_=>[(15,s_.1),(18,s_.2.1),(21,s_.2.2.1),(22, .agg #[s_.1,s_.2.1,s_.2.2.1]),(9, .pointer (some ⟨s_.2.2.2,0,none⟩))]) (fun s_ w'=>w'.cell? ⟨g3,0,none⟩=some (.int .i64 n0)∧Below w14.heap.size w14 w'∧Kd.R (Kd.int .i64) 3 w' w14.heap.size (fun _=>True) s_.1 (List.replicate n0 0)∧Kd.R Kd.bool 4 w' w14.heap.size (fun _=>True) s_.2.1 (List.replicate n0 false)∧Kd.R k38 38 w' w14.heap.size (fun _=>True) s_.2.2.1 (List.replicate n0 z38)∧w14.heap.size≤s_.2.2.2∧w'.heap[s_.2.2.2]? =some (.cells #[.slice none 0 0, .slice none 0 0, .slice none 0 0] 109 (0,0))) ?_ ?_
 rotate_left
 ·intro hCont
  refine makers_ (fuel:=2) 4 #[true,true,true,true,true,true,true,true,true,false,true,false] [10] #[true,true,true,true,true,true,true,true,true,false,false,false] [⟨2,15,(fun v w'=>Kd.R (Kd.int .i64) 3 w' w14.heap.size (fun _=>True) v (List.replicate n0 0))⟩,⟨5,18,(fun v w'=>Kd.R Kd.bool 4 w' w14.heap.size (fun _=>True) v (List.replicate n0 false))⟩,⟨8,21,(fun v w'=>Kd.R k38 38 w' w14.heap.size (fun _=>True) v (List.replicate n0 z38))⟩,⟨10,9,(fun v w'=> ∃ g,v= .pointer (some ⟨g,0,none⟩)∧w14.heap.size≤g∧w'.heap[g]? =some (.cells #[.slice none 0 0, .slice none 0 0, .slice none 0 0] 109 (0,0)))⟩] rfl (by simp) (by simp) ?_ ?_ (by kernel_rfl) hHeld ?_ ?_
  ·intro m hm
   simp only[List.mem_cons,List.not_mem_nil,or_false] at hm
   rcases hm with rfl|rfl|rfl|rfl
   ·refine⟨_,rfl,rfl,by simp,fun a' w' K he hS hb hK=> ?_⟩
    refine Kd.R_make_step (Kd.int .i64) (w0:=w') w14.heap.size 3 (by rfl) (N:=15) rfl 25 (.tmp 14) (.tmp 14) rfl (n0:Int) ((he 14 (by simp)).trans rfl) ((he 14 (by simp)).trans rfl) Try.underlying25 (.int .i64 0) 8 info3 rfl (by decide) (by omega) 0 (ok:=fun _=>True) (okp:=fun _=>False) ?hz (fun _ hk=>hk.elim) trivial (by omega) (by rw[Int.toNat_natCast];omega) (Below.refl _ _) hb.size (fun v1 w1 hr hb1 hg hat=> ?_)
    case hz=>rfl
    rw[Int.toNat_natCast] at hr
    have hbb:Below w'.heap.size w' w1:=⟨hg.os,hg.tape,hg.output,hg.size,fun k hk=>hg.block k hk (by simp)⟩
    exact hK v1 w1 (pw_cell_below hbb hS) hbb hr
   ·refine⟨_,rfl,rfl,by simp,fun a' w' K he hS hb hK=> ?_⟩
    refine Kd.R_make_step Kd.bool (w0:=w') w14.heap.size 4 (by rfl) (N:=18) rfl 26 (.tmp 17) (.tmp 17) rfl (n0:Int) ((he 17 (by simp)).trans rfl) ((he 17 (by simp)).trans rfl) Try.underlying26 (.bool false) 1 info4 rfl (by decide) (by omega) false (ok:=fun _=>True) (okp:=fun _=>False) ?hz (fun _ hk=>hk.elim) trivial (by omega) (by rw[Int.toNat_natCast];omega) (Below.refl _ _) hb.size (fun v1 w1 hr hb1 hg hat=> ?_)
    case hz=>rfl
    rw[Int.toNat_natCast] at hr
    have hbb:Below w'.heap.size w' w1:=⟨hg.os,hg.tape,hg.output,hg.size,fun k hk=>hg.block k hk (by simp)⟩
    exact hK v1 w1 (pw_cell_below hbb hS) hbb hr
   ·refine⟨_,rfl,rfl,by simp,fun a' w' K he hS hb hK=> ?_⟩
    refine Kd.R_make_step k38 (w0:=w') w14.heap.size 38 (by rfl) (N:=21) rfl 34 (.tmp 20) (.tmp 20) rfl (n0:Int) ((he 20 (by simp)).trans rfl) ((he 20 (by simp)).trans rfl) Try.underlying34 (.agg #[(.int .i64 0),(.bool false)]) 16 info38 rfl (by decide) (by omega) z38 (ok:=fun _=>True) (okp:=fun _=>False) ?hz (fun _ hk=>hk.elim) trivial (by omega) (by rw[Int.toNat_natCast];omega) (Below.refl _ _) hb.size (fun v1 w1 hr hb1 hg hat=> ?_)
    case hz=>exact k38_mkM _ _ _ z38
    rw[Int.toNat_natCast] at hr
    have hbb:Below w'.heap.size w' w1:=⟨hg.os,hg.tape,hg.output,hg.size,fun k hk=>hg.block k hk (by simp)⟩
    exact hK v1 w1 (pw_cell_below hbb hS) hbb hr
   ·refine⟨_,rfl,rfl,by simp,fun a' w' K he hS hb hK=> ?_⟩
    refine box_step ?hg (N:=9) ?hd (cs:= #[.slice none 0 0, .slice none 0 0, .slice none 0 0]) (t:=109) ?hr ?_;(case hd=>rfl);(case hg=>rfl);(case hr=>first|(go_simp;done)|(go_simp;rfl))
    intro g hg w1 Zf hbb
    exact hK _ w1 (pw_cell_below hbb hS) hbb ⟨g,rfl,by rw[hg];exact hb.size,Zf⟩
  ·intro m hm
   simp only[List.mem_cons,List.not_mem_nil,or_false] at hm
   rcases hm with rfl|rfl|rfl|rfl
   ·exact fun v w1 w2 hb hg=>Kd.R_below hg hb
   ·exact fun v w1 w2 hb hg=>Kd.R_below hg hb
   ·exact fun v w1 w2 hb hg=>Kd.R_below hg hb
   ·rintro v w1 w2 hb ⟨g,e,h1,h2⟩
    exact⟨g,e,h1,blk_below h2 hb⟩
  ·skip
   intro vs w15 hb15 hHeld hG
   have p0:=hG _ (List.mem_cons_self ..)
   have p1:=hG _ (List.mem_cons_of_mem _ (List.mem_cons_self ..))
   have p2:=hG _ (List.mem_cons_of_mem _ (List.mem_cons_of_mem _ (List.mem_cons_self ..)))
   have p3:=hG _ (List.mem_cons_of_mem _ (List.mem_cons_of_mem _ (List.mem_cons_of_mem _ (List.mem_cons_self ..))))
   clear hG
   dsimp only at p0 p1 p2
   obtain⟨A0,k0,e0⟩:=Kd.R_slice p0
   obtain⟨A1_,k1,e1⟩:=Kd.R_slice p1
   obtain⟨A2_,k2,e2⟩:=Kd.R_slice p2
   rw[List.length_replicate] at e0 e1 e2
   obtain⟨g_,e3,p3a,p3b⟩:=p3
   dsimp only at e3
   refine norm_ (a':= ?_) ?_ ?_
   rotate_left
   ·simp only[List.map_cons,List.map_nil,List.filter_cons,List.filter_nil,putAll,Act.put,List.setIfInBounds_toArray,List.set_cons_zero,List.set_cons_succ,e0,e1,e2,e3]
    rfl
   rw[e0] at p0
   rw[e1] at p1
   rw[e2] at p2
   refine pure_ (i:=9) (N:=some 22) (v:= ?_) (a':= ?_) #[true,true,true,true,true,true,true,true,true,true,true,false] rfl rfl (by kernel_rfl) (fun _ _ _ h=>h) (Or.inl ⟨by rfl,?_⟩) ?_ ?_
   rotate_left
   ·intro w'
    go_simp
    with_reducible rfl
   rotate_left
   ·simp only[Act.put,List.setIfInBounds_toArray,List.set_cons_zero,List.set_cons_succ,i64_w,i32_w]
    rfl
   exact norm_ (by(simp only[putAll,Act.put,List.setIfInBounds_toArray,List.set_cons_zero,List.set_cons_succ])<;>rfl) (hCont (.slice A0 n0 k0, .slice A1_ n0 k1, .slice A2_ n0 k2,g_) _ ⟨hHeld,hb15,p0,p1,p2,p3a,p3b⟩)
  ·skip
   intro vs w15 hb15 hHeld hG
   have p0:=hG _ (List.mem_cons_self ..) (by simp)
   have p1:=hG _ (List.mem_cons_of_mem _ (List.mem_cons_self ..)) (by simp)
   have p2:=hG _ (List.mem_cons_of_mem _ (List.mem_cons_of_mem _ (List.mem_cons_self ..))) (by simp)
   clear hG
   dsimp only at p0 p1 p2
   obtain⟨A0,k0,e0⟩:=Kd.R_slice p0
   obtain⟨A1_,k1,e1⟩:=Kd.R_slice p1
   obtain⟨A2_,k2,e2⟩:=Kd.R_slice p2
   rw[List.length_replicate] at e0 e1 e2
   show wpAnyLast _ _ _ _ _ _ 3 _ _ _
   refine norm_ (a':= ?_) ?_ ?_
   rotate_left
   ·show putAll _ [(15,vs 15),(18,vs 18),(21,vs 21)]=_
    simp only[e0,e1,e2,putAll,Act.put,List.setIfInBounds_toArray,List.set_cons_zero,List.set_cons_succ]
    rfl
   rw[e0] at p0
   rw[e1] at p1
   rw[e2] at p2
   refine pure_ (i:=9) (N:=some 22) (v:= ?_) (a':= ?_) #[true,true,true,true,true,true,true,true,true,true,false,false] rfl rfl (by kernel_rfl) (fun _ _ _ h=>h) (Or.inl ⟨by rfl,?_⟩) ?_ ?_
   rotate_left
   ·intro w'
    go_simp
    with_reducible rfl
   rotate_left
   ·simp only[Act.put,List.setIfInBounds_toArray,List.set_cons_zero,List.set_cons_succ,i64_w,i32_w]
    rfl
   refine one_ (i:=10) (N:=some 9) #[true,true,true,true,true,true,true,true,true,true,true,false] rfl rfl (by kernel_rfl) (by decide) (fun K hK=> ?_)
   refine box_step ?hg (N:=9) ?hd (cs:= #[.slice none 0 0, .slice none 0 0, .slice none 0 0]) (t:=109) ?hr ?_;(case hd=>rfl);(case hg=>rfl);(case hr=>first|(go_simp;done)|(go_simp;rfl))
   intro g_ hg w16 Zf hbb
   refine hK.out _ _ (pw_cell_below hbb hHeld) (fun hHeld=> ?_)
   exact norm_ (by(simp only[putAll,Act.put,List.setIfInBounds_toArray,List.set_cons_zero,List.set_cons_succ])<;>rfl) (hCont (.slice A0 n0 k0, .slice A1_ n0 k1, .slice A2_ n0 k2,g_) _ ⟨hHeld,below_then hb15 hb15.size hbb,Kd.R_below p0 hbb,Kd.R_below p1 hbb,Kd.R_below p2 hbb,by rw[hg];exact hb15.size,Zf⟩)
 rintro⟨v0,v1,v2,g9⟩ w15 ⟨hHeld,hb15,p0,p1,p2,p3a,p3b⟩
 dsimp only at p0 p1 p2 p3a p3b
 refine norm_ (a':= ?_) ?_ ?_
 rotate_left
 ·simp only[putAll,Act.put,List.setIfInBounds_toArray,List.set_cons_zero,List.set_cons_succ]
  rfl
 have m_HB:=Aside0.mk (below_step HB.out hb15)
 have m_B3:=Aside0.mk (blk_below B3.out hb15)
 have m_B6:=Aside0.mk (blk_below B6.out hb15)
 have m_B8:=Aside0.mk (blk_below B8.out hb15)
 have m_HV:=Aside0.mk (Kd.V_below HV.out hb15)
 clear hb15 HB B3 B6 B8 HV
 have HB:=m_HB
 clear m_HB
 have B3:=m_B3
 clear m_B3
 have B6:=m_B6
 clear m_B6
 have B8:=m_B8
 clear m_B8
 have HV:=m_HV
 clear m_HV
 obtain⟨gd,cd,e0,q0,q0b,_,_⟩:=Kd.R_form p0 (by rw[List.length_replicate];exact hn0)
 obtain⟨gi,ci,e1,q1,q1b,_,_⟩:=Kd.R_form p1 (by rw[List.length_replicate];exact hn0)
 obtain⟨gb,cb,e2,q2,q2b,_,_⟩:=Kd.R_form p2 (by rw[List.length_replicate];exact hn0)
 rw[List.length_replicate] at e0 e1 e2
 subst e0
 subst e1
 subst e2
 have HP0:=Aside0.mk p0
 have HP1:=Aside0.mk p1
 have HP2:=Aside0.mk p2
 have HP3:=Aside0.mk p3b
 have GP3:=Aside0.mk p3a
 have GP0:=Aside0.mk q0
 have GP1:=Aside0.mk q1
 have GP2:=Aside0.mk q2
 clear p0 p1 p2 p3a p3b q0 q1 q2 q0b q1b q2b
 refine last_ (i:=11) (N:=none) #[true,true,true,true,true,true,true,true,true,true,true,true] rfl rfl (by kernel_rfl) (by decide) (fun K hK=> ?_)
 have hs0:w15.cell? ⟨g9,0,none⟩=some (.slice none 0 0):=(blk_cell HP3.out 0).trans rfl
 have hfs0:=blk_frozen HP3.out 0
 have hs1:w15.cell? ⟨g9,1,none⟩=some (.slice none 0 0):=(blk_cell HP3.out 1).trans rfl
 have hfs1:=blk_frozen HP3.out 1
 have hs2:w15.cell? ⟨g9,2,none⟩=some (.slice none 0 0):=(blk_cell HP3.out 2).trans rfl
 have hfs2:=blk_frozen HP3.out 2
 refine skip_ (w1:=(((w15.setCell ⟨g9,0,none⟩ (.slice (some ⟨gd,0,none⟩) n0 cd)).setCell ⟨g9,1,none⟩ (.slice (some ⟨gi,0,none⟩) n0 ci)).setCell ⟨g9,2,none⟩ (.slice (some ⟨gb,0,none⟩) n0 cb))) (by rfl) rfl ?_ ?_
 ·go_simp
 refine hK.out _ _ ?_
 clear hK K hs0 hs1 hs2 hfs0 hfs1 hfs2 hHeld
 have m0_:=Aside0.mk (Kd.R_set (Kd.R_set (Kd.R_set HP0.out HP3.out (by decide) 0 (.slice (some ⟨gd,0,none⟩) n0 cd)) (blk_put HP3.out 0 (.slice (some ⟨gd,0,none⟩) n0 cd) rfl) (by decide) 1 (.slice (some ⟨gi,0,none⟩) n0 ci)) (blk_put (blk_put HP3.out 0 (.slice (some ⟨gd,0,none⟩) n0 cd) rfl) 1 (.slice (some ⟨gi,0,none⟩) n0 ci) rfl) (by decide) 2 (.slice (some ⟨gb,0,none⟩) n0 cb))
 have m1_:=Aside0.mk (Kd.R_set (Kd.R_set (Kd.R_set HP1.out HP3.out (by decide) 0 (.slice (some ⟨gd,0,none⟩) n0 cd)) (blk_put HP3.out 0 (.slice (some ⟨gd,0,none⟩) n0 cd) rfl) (by decide) 1 (.slice (some ⟨gi,0,none⟩) n0 ci)) (blk_put (blk_put HP3.out 0 (.slice (some ⟨gd,0,none⟩) n0 cd) rfl) 1 (.slice (some ⟨gi,0,none⟩) n0 ci) rfl) (by decide) 2 (.slice (some ⟨gb,0,none⟩) n0 cb))
 have m2_:=Aside0.mk (Kd.R_set (Kd.R_set (Kd.R_set HP2.out HP3.out (by decide) 0 (.slice (some ⟨gd,0,none⟩) n0 cd)) (blk_put HP3.out 0 (.slice (some ⟨gd,0,none⟩) n0 cd) rfl) (by decide) 1 (.slice (some ⟨gi,0,none⟩) n0 ci)) (blk_put (blk_put HP3.out 0 (.slice (some ⟨gd,0,none⟩) n0 cd) rfl) 1 (.slice (some ⟨gi,0,none⟩) n0 ci) rfl) (by decide) 2 (.slice (some ⟨gb,0,none⟩) n0 cb))
 have m3_:=Aside0.mk (blk_put (blk_put (blk_put HP3.out 0 (.slice (some ⟨gd,0,none⟩) n0 cd) rfl) 1 (.slice (some ⟨gi,0,none⟩) n0 ci) rfl) 2 (.slice (some ⟨gb,0,none⟩) n0 cb) rfl)
 clear m0_ m1_ m2_ m3_
 obtain⟨w16,hw16⟩: ∃ x_,x_=(((w15.setCell ⟨g9,0,none⟩ (.slice (some ⟨gd,0,none⟩) n0 cd)).setCell ⟨g9,1,none⟩ (.slice (some ⟨gi,0,none⟩) n0 ci)).setCell ⟨g9,2,none⟩ (.slice (some ⟨gb,0,none⟩) n0 cb)):=⟨_,rfl⟩
 have m0_:Aside0 (Kd.R (Kd.int .i64) 3 w16 w14.heap.size (fun _=>True) (.slice (some ⟨gd,0,none⟩) n0 cd) (List.replicate n0 0)):=⟨by rw[hw16];exact Kd.R_set (Kd.R_set (Kd.R_set (HP0.out) (HP3.out) (by decide) 0 (.slice (some ⟨gd,0,none⟩) n0 cd)) (blk_put (HP3.out) 0 (.slice (some ⟨gd,0,none⟩) n0 cd) rfl) (by decide) 1 (.slice (some ⟨gi,0,none⟩) n0 ci)) (blk_put (blk_put (HP3.out) 0 (.slice (some ⟨gd,0,none⟩) n0 cd) rfl) 1 (.slice (some ⟨gi,0,none⟩) n0 ci) rfl) (by decide) 2 (.slice (some ⟨gb,0,none⟩) n0 cb)⟩
 have m1_:Aside0 (Kd.R Kd.bool 4 w16 w14.heap.size (fun _=>True) (.slice (some ⟨gi,0,none⟩) n0 ci) (List.replicate n0 false)):=⟨by rw[hw16];exact Kd.R_set (Kd.R_set (Kd.R_set (HP1.out) (HP3.out) (by decide) 0 (.slice (some ⟨gd,0,none⟩) n0 cd)) (blk_put (HP3.out) 0 (.slice (some ⟨gd,0,none⟩) n0 cd) rfl) (by decide) 1 (.slice (some ⟨gi,0,none⟩) n0 ci)) (blk_put (blk_put (HP3.out) 0 (.slice (some ⟨gd,0,none⟩) n0 cd) rfl) 1 (.slice (some ⟨gi,0,none⟩) n0 ci) rfl) (by decide) 2 (.slice (some ⟨gb,0,none⟩) n0 cb)⟩
 have m2_:Aside0 (Kd.R k38 38 w16 w14.heap.size (fun _=>True) (.slice (some ⟨gb,0,none⟩) n0 cb) (List.replicate n0 z38)):=⟨by rw[hw16];exact Kd.R_set (Kd.R_set (Kd.R_set (HP2.out) (HP3.out) (by decide) 0 (.slice (some ⟨gd,0,none⟩) n0 cd)) (blk_put (HP3.out) 0 (.slice (some ⟨gd,0,none⟩) n0 cd) rfl) (by decide) 1 (.slice (some ⟨gi,0,none⟩) n0 ci)) (blk_put (blk_put (HP3.out) 0 (.slice (some ⟨gd,0,none⟩) n0 cd) rfl) 1 (.slice (some ⟨gi,0,none⟩) n0 ci) rfl) (by decide) 2 (.slice (some ⟨gb,0,none⟩) n0 cb)⟩
 have m3_:Aside0 (w16.heap[g9]? =some (.cells #[.slice (some ⟨gd,0,none⟩) n0 cd, .slice (some ⟨gi,0,none⟩) n0 ci, .slice (some ⟨gb,0,none⟩) n0 cb] 109 (0,0))):=⟨by rw[hw16];exact blk_put (blk_put (blk_put (HP3.out) 0 (.slice (some ⟨gd,0,none⟩) n0 cd) rfl) 1 (.slice (some ⟨gi,0,none⟩) n0 ci) rfl) 2 (.slice (some ⟨gb,0,none⟩) n0 cb) rfl⟩
 have m4_:Aside0 (w16.heap[g3]? =some (.cells #[.int .i64 n0, .bool Zb, .slice A2 l.length c2] 24 (0,0))):=⟨by rw[hw16];exact blk_far (blk_far (blk_far B3.out (by show _≠g9;have:=L3.out;have:=GP3.out;omega) _) (by show _≠g9;have:=L3.out;have:=GP3.out;omega) _) (by show _≠g9;have:=L3.out;have:=GP3.out;omega) _⟩
 have m5_:Aside0 (w16.heap[g6]? =some (.cells #[.slice none 0 0, .slice none 0 0, .slice none 0 0] 109 (0,0))):=⟨by rw[hw16];exact blk_far (blk_far (blk_far B6.out (by show _≠g9;have:=L6.out;have:=GP3.out;omega) _) (by show _≠g9;have:=L6.out;have:=GP3.out;omega) _) (by show _≠g9;have:=L6.out;have:=GP3.out;omega) _⟩
 have m6_:Aside0 (w16.heap[g8]? =some (.cells #[.int .i64 n0, .bool Zb, .slice A2 l.length c2, .slice A1 F.length c1, .slice A4 n0 c4] 118 (0,0))):=⟨by rw[hw16];exact blk_far (blk_far (blk_far B8.out (by show _≠g9;have:=L8.out;have:=GP3.out;omega) _) (by show _≠g9;have:=L8.out;have:=GP3.out;omega) _) (by show _≠g9;have:=L8.out;have:=GP3.out;omega) _⟩
 have m7_:Aside0 (Kd.V (Kd.slice 38 k38) 34 w16 0 (fun k=>k<w14.heap.size) (.slice A4 n0 c4) (rowsAt l n0 n0)):=⟨by rw[hw16];exact Kd.V_far (p:=⟨g9,2,none⟩) (Kd.V_far (p:=⟨g9,1,none⟩) (Kd.V_far (p:=⟨g9,0,none⟩) (HV.out) (fun k hk=>by show k≠g9;have:=GP3.out;omega) (.slice (some ⟨gd,0,none⟩) n0 cd)) (fun k hk=>by show k≠g9;have:=GP3.out;omega) (.slice (some ⟨gi,0,none⟩) n0 ci)) (fun k hk=>by show k≠g9;have:=GP3.out;omega) (.slice (some ⟨gb,0,none⟩) n0 cb)⟩
 have m8_:Aside0 (Below w.heap.size w w16):=⟨by rw[hw16];exact below_set (below_set (below_set HB.out (Nat.le_trans S14.out GP3.out)) (Nat.le_trans S14.out GP3.out)) (Nat.le_trans S14.out GP3.out)⟩
 have G69:Aside0 (g6≠g9∧g8≠g9∧g3≠g9):=⟨by have:=L6.out;have:=L8.out;have:=L3.out;have:=GP3.out;exact⟨by omega,by omega,by omega⟩⟩
 rw[← hw16]
 clear hw16 HP0 HP1 HP2 HP3 B3 B6 B8 HV HB
 have HD:=m0_
 clear m0_
 have HI:=m1_
 clear m1_
 have HQ:=m2_
 clear m2_
 have B9:=m3_
 clear m3_
 have B3:=m4_
 clear m4_
 have B6:=m5_
 clear m5_
 have B8:=m6_
 clear m6_
 have HV:=m7_
 clear m7_
 have HB:=m8_
 clear m8_
 refine done_ (by kernel_rfl) ?_
 have hq1:w16.cell? ⟨g9,1,none⟩=some (.slice (some ⟨gi,0,none⟩) n0 ci):=(blk_cell B9.out 1).trans rfl
 have hps:0≤(s:Int):=by omega
 have hqs:(s:Int)<(n0:Int):=by omega
 obtain⟨ads,eas,hcs⟩:=Kd.at_bool (Kd.R_reads' HI.out).2.2 (s:Int) hps (by rw[List.length_replicate];exact hqs)
 cases eas
 simp only[Int.toNat_natCast,add_plain] at hcs
 obtain⟨_,_,_,_,hfs_⟩:=Kd.R_elem HI.out false (s:Int) hps hqs
 have hfs:=hfs_ 0
 simp only[Int.toNat_natCast,Nat.add_zero] at hfs
 (try rw[show Kd.bool.sz=1 from rfl,Nat.mul_one] at hfs)
 clear hfs_
 go_wp2_with fail
 obtain⟨w17,hw⟩: ∃ x_,x_=(w16.setCell ⟨gi,s,none⟩ (.bool true)):=⟨_,rfl⟩
 rw[← hw]
 have P_:=Kd.R_putg HI.out (s:Int) true
 simp only[Int.toNat_natCast] at P_
 have hg:w16.grownBy w17 (some gi):=(by rw[hw];exact P_.2)
 have m1_:Aside0 (Kd.R Kd.bool 4 w17 w14.heap.size (fun _=>True) (.slice (some ⟨gi,0,none⟩) n0 ci) ((List.replicate n0 false).set s true)):=⟨by rw[hw];exact P_.1⟩
 have m0_:=Aside0.mk (Kd.R_over' HD.out (Kd.R_typed HI.out) (by decide) hg)
 have m2_:=Aside0.mk (Kd.R_over' HQ.out (Kd.R_typed HI.out) (by decide) hg)
 have m3_:=Aside0.mk (blk_grown B9.out hg (Kd.R_ne HI.out B9.out (by decide)))
 have m4_:=Aside0.mk (blk_grown B3.out hg (Kd.R_ne HI.out B3.out (by decide)))
 have m5_:=Aside0.mk (blk_grown B6.out hg (Kd.R_ne HI.out B6.out (by decide)))
 have m6_:=Aside0.mk (blk_grown B8.out hg (Kd.R_ne HI.out B8.out (by decide)))
 have m7_:=Aside0.mk (Kd.V_grown HV.out hg (fun k hk he=>by injection he with he;have:=GP1.out;omega))
 have m8_:=Aside0.mk (HB.out.grown hg HB.out.size (fun k hk=>by injection hk with hk;subst hk;exact Nat.le_trans S14.out GP1.out))
 clear hw hg P_ HD HI HQ B9 B3 B6 B8 HV HB hq1 hcs hfs
 have HD:=m0_
 clear m0_
 have HI:=m1_
 clear m1_
 have HQ:=m2_
 clear m2_
 have B9:=m3_
 clear m3_
 have B3:=m4_
 clear m4_
 have B6:=m5_
 clear m5_
 have B8:=m6_
 clear m6_
 have HV:=m7_
 clear m7_
 have HB:=m8_
 clear m8_
 refine start_ (n:=6) (S:=fun w'=>w'.cell? ⟨g9,0,none⟩=some (.slice (some ⟨gd,0,none⟩) n0 cd)∧w'.cell? ⟨g9,1,none⟩=some (.slice (some ⟨gi,0,none⟩) n0 ci)∧w'.cell? ⟨g9,2,none⟩=some (.slice (some ⟨gb,0,none⟩) n0 cb)∧w'.cell? ⟨g8,0,none⟩=some (.int .i64 n0)∧w'.cell? ⟨g8,1,none⟩=some (.bool Zb)∧w'.cell? ⟨g8,2,none⟩=some (.slice A2 l.length c2)∧w'.cell? ⟨g8,3,none⟩=some (.slice A1 F.length c1)∧w'.cell? ⟨g8,4,none⟩=some (.slice A4 n0 c4)) (ds:=[4]) #[false,false,false,false,false,false] (by kernel_rfl) rfl rfl ⟨(blk_cell B9.out 0).trans rfl,(blk_cell B9.out 1).trans rfl,(blk_cell B9.out 2).trans rfl,(blk_cell B8.out 0).trans rfl,(blk_cell B8.out 1).trans rfl,(blk_cell B8.out 2).trans rfl,(blk_cell B8.out 3).trans rfl,(blk_cell B8.out 4).trans rfl⟩ (fun hHeld=> ?_)
 have m0_:=Aside0.mk (Kd.R_drew HD.out)
 have m1_:=Aside0.mk (Kd.R_drew HI.out)
 have m2_:=Aside0.mk (Kd.R_drew HQ.out)
 have m3_:=Aside0.mk (blk_below B9.out (below_drew (Below.refl _ _)))
 have m4_:=Aside0.mk (blk_below B6.out (below_drew (Below.refl _ _)))
 have m5_:=Aside0.mk (blk_below B8.out (below_drew (Below.refl _ _)))
 have m6_:=Aside0.mk (Kd.V_drew HV.out)
 have m7_:=Aside0.mk (below_drew HB.out)
 clear HD HI HQ B9 B6 B8 HV HB
 have HD:=m0_
 clear m0_
 have HI:=m1_
 clear m1_
 have HQ:=m2_
 clear m2_
 have B9:=m3_
 clear m3_
 have B6:=m4_
 clear m4_
 have B8:=m5_
 clear m5_
 have HV:=m6_
 clear m6_
 have HB:=m7_
 clear m7_
 clear B3
 generalize w17.drew=w18 at hHeld HD HI HQ B9 B6 B8 HV HB ⊢
 refine take_ (i:=0) (N:=some 27) (v:= ?_) (a':= ?_) #[true,false,false,false,false,false] rfl rfl (by kernel_rfl) (fun _ _ _ h=>h) (Or.inl ⟨by rfl,?_⟩) hHeld ?_ ?_
 rotate_left
 ·rintro w' ⟨s0,s1,s2,s3,s4,s5,s6,s7⟩
  go_simp
  with_reducible rfl
 rotate_left
 ·simp only[Act.put,List.setIfInBounds_toArray,List.set_cons_zero,List.set_cons_succ,i64_w,i32_w]
  rfl
 refine take_ (i:=1) (N:=some 28) (v:= ?_) (a':= ?_) #[true,true,false,false,false,false] rfl rfl (by kernel_rfl) (fun _ _ _ h=>h) (Or.inl ⟨by rfl,?_⟩) hHeld ?_ ?_
 rotate_left
 ·rintro w' ⟨s0,s1,s2,s3,s4,s5,s6,s7⟩
  go_simp
  with_reducible rfl
 rotate_left
 ·simp only[Act.put,List.setIfInBounds_toArray,List.set_cons_zero,List.set_cons_succ,i64_w,i32_w]
  rfl
 refine take_ (i:=2) (N:=some 29) (v:= ?_) (a':= ?_) #[true,true,true,false,false,false] rfl rfl (by kernel_rfl) (fun _ _ _ h=>h) (Or.inl ⟨by rfl,?_⟩) hHeld ?_ ?_
 rotate_left
 ·rintro w' ⟨s0,s1,s2,s3,s4,s5,s6,s7⟩
  go_simp
  with_reducible rfl
 rotate_left
 ·simp only[Act.put,List.setIfInBounds_toArray,List.set_cons_zero,List.set_cons_succ,i64_w,i32_w]
  rfl
 refine one_ (i:=3) (N:=some 30) #[true,true,true,true,false,false] rfl rfl (by kernel_rfl) (by decide) (fun K hK=> ?_)
 refine goes_ Try.func100 (by kernel_rfl) rfl #[.agg #[.int .i64 n0, .bool Zb, .slice A2 l.length c2, .slice A1 F.length c1, .slice A4 n0 c4], .agg #[.slice (some ⟨gd,0,none⟩) n0 cd, .slice (some ⟨gi,0,none⟩) n0 ci, .slice (some ⟨gb,0,none⟩) n0 cb]] (by rfl) rfl rfl (by(try simp only[List.map_toArray,List.map_cons,List.map_nil]);first|done|rfl) ?_
 refine(settled_calls n0 Zb A2 c2 l A1 c1 F A4 c4 gd gi gb cd ci cb w14.heap.size (startR n0 s) w18 HR.out (startR_ok n0 s) (bd_zero n0) HC2.out HC1.out (Kd.F_mono (Kd.F_below (Kd.C_F heap74 H2.out) HB.out) (fun k hk=>⟨by have:=S14.out;have:=GP0.out;omega,by have:=S14.out;have:=GP1.out;omega,by have:=S14.out;have:=GP2.out;omega⟩)) (Kd.F_mono (Kd.F_below (Kd.C_F (Kd.heap_int _) H3.out) HB.out) (fun k hk=>⟨by have:=S14.out;have:=GP0.out;omega,by have:=S14.out;have:=GP1.out;omega,by have:=S14.out;have:=GP2.out;omega⟩)) (Kd.V_mono HV.out (fun k hk=>⟨by have:=GP0.out;omega,by have:=GP1.out;omega,by have:=GP2.out;omega⟩)) HD.out HI.out HQ.out).mono ?_
 rw[← HXT.out]
 rintro e w19 ⟨rfl,hkp,hd,hi,hq⟩
 refine⟨_,rfl,?_⟩
 have m_:=Aside0.mk ((hkp.block _ (blk_lt B9.out) (fun e=>Kd.R_ne HD.out B9.out (by decide) (congrArg some e)) (fun e=>Kd.R_ne HI.out B9.out (by decide) (congrArg some e)) (fun e=>Kd.R_ne HQ.out B9.out (by decide) (congrArg some e))).trans B9.out)
 clear B9
 have B9:=m_
 clear m_
 have m_:=Aside0.mk ((hkp.block _ (blk_lt B6.out) (fun e=>Kd.R_ne HD.out B6.out (by decide) (congrArg some e)) (fun e=>Kd.R_ne HI.out B6.out (by decide) (congrArg some e)) (fun e=>Kd.R_ne HQ.out B6.out (by decide) (congrArg some e))).trans B6.out)
 clear B6
 have B6:=m_
 clear m_
 have m_:=Aside0.mk ((hkp.block _ (blk_lt B8.out) (fun e=>Kd.R_ne HD.out B8.out (by decide) (congrArg some e)) (fun e=>Kd.R_ne HI.out B8.out (by decide) (congrArg some e)) (fun e=>Kd.R_ne HQ.out B8.out (by decide) (congrArg some e))).trans B8.out)
 clear B8
 have B8:=m_
 clear m_
 have m_:=Aside0.mk (hkp.toBelow HB.out HB.out.size (Nat.le_trans S14.out GP0.out) (Nat.le_trans S14.out GP1.out) (Nat.le_trans S14.out GP2.out))
 clear HB HD HI HQ HV hkp
 have HB:=m_
 clear m_
 have HD:=Aside0.mk hd
 have HI:=Aside0.mk hi
 have HQ:=Aside0.mk hq
 clear hd hi hq
 refine hK.out _ _ ⟨(blk_cell B9.out 0).trans rfl,(blk_cell B9.out 1).trans rfl,(blk_cell B9.out 2).trans rfl,(blk_cell B8.out 0).trans rfl,(blk_cell B8.out 1).trans rfl,(blk_cell B8.out 2).trans rfl,(blk_cell B8.out 3).trans rfl,(blk_cell B8.out 4).trans rfl⟩ (fun hHeld=> ?_)
 clear hK K
 refine norm_ (a':= ?_) ?_ ?_
 rotate_left
 ·show Act.put _ (some 30) _=_
  simp only[Act.put,List.setIfInBounds_toArray,List.set_cons_zero,List.set_cons_succ,i64_w,i32_w]
  rfl
 refine last_ (i:=4) (N:=none) #[true,true,true,true,true,false] rfl rfl (by kernel_rfl) (by decide) (fun K hK=> ?_)
 have hs0:w19.cell? ⟨g6,0,none⟩=some (.slice none 0 0):=(blk_cell B6.out 0).trans rfl
 have hfs0:=blk_frozen B6.out 0
 have hs1:w19.cell? ⟨g6,1,none⟩=some (.slice none 0 0):=(blk_cell B6.out 1).trans rfl
 have hfs1:=blk_frozen B6.out 1
 have hs2:w19.cell? ⟨g6,2,none⟩=some (.slice none 0 0):=(blk_cell B6.out 2).trans rfl
 have hfs2:=blk_frozen B6.out 2
 refine skip_ (w1:=(((w19.setCell ⟨g6,0,none⟩ (.slice (some ⟨gd,0,none⟩) n0 cd)).setCell ⟨g6,1,none⟩ (.slice (some ⟨gi,0,none⟩) n0 ci)).setCell ⟨g6,2,none⟩ (.slice (some ⟨gb,0,none⟩) n0 cb))) (by rfl) rfl ?_ ?_
 ·go_simp
 refine hK.out _ _ ?_
 clear hK K hs0 hs1 hs2 hfs0 hfs1 hfs2 hHeld
 refine pure_ (i:=5) (N:=some 7) (v:= ?_) (a':= ?_) #[true,true,true,true,true,true] rfl rfl (by kernel_rfl) (fun _ _ _ h=>h) (Or.inl ⟨by rfl,?_⟩) ?_ ?_
 rotate_left
 ·intro w'
  go_simp
  with_reducible rfl
 rotate_left
 ·simp only[Act.put,List.setIfInBounds_toArray,List.set_cons_zero,List.set_cons_succ,i64_w,i32_w]
  rfl
 refine done_ (by kernel_rfl) ?_
 go_wp2_with fail
 refine bodyPost_ret (results_ct rfl _ _ g6 109 #[.slice (some ⟨gd,0,none⟩) n0 cd, .slice (some ⟨gi,0,none⟩) n0 ci, .slice (some ⟨gb,0,none⟩) n0 cb] (0,0) _ rfl (blk_put (blk_put (blk_put (B6.out) 0 (.slice (some ⟨gd,0,none⟩) n0 cd) rfl) 1 (.slice (some ⟨gi,0,none⟩) n0 ci) rfl) 2 (.slice (some ⟨gb,0,none⟩) n0 cb) rfl) Try.underlying109 rfl (by kernel_rfl)) rfl ?_
 exact⟨_,_,_,rfl,Kd.R_lower (Kd.R_set (Kd.R_set (Kd.R_set (HD.out) (B6.out) (by decide) 0 (.slice (some ⟨gd,0,none⟩) n0 cd)) (blk_put (B6.out) 0 (.slice (some ⟨gd,0,none⟩) n0 cd) rfl) (by decide) 1 (.slice (some ⟨gi,0,none⟩) n0 ci)) (blk_put (blk_put (B6.out) 0 (.slice (some ⟨gd,0,none⟩) n0 cd) rfl) 1 (.slice (some ⟨gi,0,none⟩) n0 ci) rfl) (by decide) 2 (.slice (some ⟨gb,0,none⟩) n0 cb)) S14.out,Kd.R_lower (Kd.R_set (Kd.R_set (Kd.R_set (HI.out) (B6.out) (by decide) 0 (.slice (some ⟨gd,0,none⟩) n0 cd)) (blk_put (B6.out) 0 (.slice (some ⟨gd,0,none⟩) n0 cd) rfl) (by decide) 1 (.slice (some ⟨gi,0,none⟩) n0 ci)) (blk_put (blk_put (B6.out) 0 (.slice (some ⟨gd,0,none⟩) n0 cd) rfl) 1 (.slice (some ⟨gi,0,none⟩) n0 ci) rfl) (by decide) 2 (.slice (some ⟨gb,0,none⟩) n0 cb)) S14.out,Kd.R_lower (Kd.R_set (Kd.R_set (Kd.R_set (HQ.out) (B6.out) (by decide) 0 (.slice (some ⟨gd,0,none⟩) n0 cd)) (blk_put (B6.out) 0 (.slice (some ⟨gd,0,none⟩) n0 cd) rfl) (by decide) 1 (.slice (some ⟨gi,0,none⟩) n0 ci)) (blk_put (blk_put (B6.out) 0 (.slice (some ⟨gd,0,none⟩) n0 cd) rfl) 1 (.slice (some ⟨gi,0,none⟩) n0 ci) rfl) (by decide) 2 (.slice (some ⟨gb,0,none⟩) n0 cb)) S14.out,below_set (below_set (below_set HB.out GE6.out) GE6.out) GE6.out⟩
end H
namespace H
open P Q
def edgeF (l:List S74) (s:S38):Ed:=((stFrom l s).toNat,(stTo l s).toNat,stTime l s)
def refE (l:List S74) (F:List Int):List Ed:=(stepsR l F F.length).map (edgeF l)
theorem refE_in {l:List S74} {F:List Int} {n:Nat} (hr:Right l F n): ∀ e,e∈refE l F→e.1<n∧e.2.1<n:=by
 intro e he
 obtain⟨s,hs,rfl⟩:=List.mem_map.1 he
 have h1:=stFrom_in hr (stepsR_of hr s hs)
 have h2:=stTo_in hr (stepsR_of hr s hs)
 exact⟨by show (stFrom l s).toNat<n;omega,by show (stTo l s).toNat<n;omega⟩
theorem liveE_mem {l:List S74} {F:List Int} {n:Nat} (hr:Right l F n) (e:Ed):e∈liveE l F n↔e∈refE l F:=by
 unfold liveE refE
 rw[List.mem_flatMap,List.mem_map]
 constructor
 ·rintro⟨v,hv,he⟩
  obtain⟨s,hs,rfl⟩:=List.mem_map.1 he
  obtain⟨hs1,hs2⟩:=List.mem_filter.1 hs
  have hso:=stL_of hs1
  refine⟨s,(mem_stepsR l F F.length s).2 ⟨by rw[hr.len];exact hso,Yu hs2⟩,?_⟩
  unfold edgeF edgeS
  rw[stL_from hs1,Int.toNat_natCast]
 ·rintro⟨s,hs,rfl⟩
  have hso:=stepsR_of hr s hs
  have hf:=stFrom_in hr hso
  refine⟨(stFrom l s).toNat,List.mem_range.2 (by omega),List.mem_map.2 ⟨s,List.mem_filter.2 ⟨?_,Yv ((mem_stepsR l F F.length s).1 hs).2⟩,rfl⟩⟩
  rw[mem_stL,Int.toNat_of_nonneg hf.1]
  obtain⟨i,h1,h2⟩:=hso
  refine⟨i,h1,h2,?_⟩
  unfold stFrom
  rw[h2]
  cases s.f1
  ·exact Or.inl ⟨rfl,rfl⟩
  ·exact Or.inr ⟨rfl,rfl⟩
theorem stTo_lt {l:List S74} {F:List Int} {n:Nat} (hr:Right l F n): ∀ (v:Nat) (s:S38),s∈stL l v l.length→(stTo l s).toNat<n:=by
 intro v s hs
 have:=stTo_in hr (stL_of hs)
 omega
structure Told (l:List S74) (F:List Int) (n:Nat) (σ0 σ:Tm):Prop where
 still: ∀ e,e∈refE l F→trig σ e=false
 real: ∀ v x,σ v=some x→Real (refE l F) σ0 v x
 bet:Bet σ σ0
theorem goes_told {l:List S74} {F:List Int} {n:Nat} (hr:Right l F n) {x:Rch} (hx:x.Ok n) (k:Nat) (h:(goesR l F n k x).2=true):Told l F n (absR x) (absR (goesR l F n k x).1):=by
 obtain⟨_,⟨m,_,h2⟩,h3,_⟩:=goesR_spec (F:=F) (stTo_lt hr) k hx
 refine⟨fun e he=>h3 h e ((liveE_mem hr e).2 he),?_,?_⟩
 ·intro v c hc
  rw[h2] at hc
  obtain⟨u,c0,p,h4,h5,h6⟩:=its_real _ m _ v c hc
  exact⟨u,c0,p,h4,h5.mono (fun e he=>(liveE_mem hr e).1 he),h6⟩
 ·rw[h2]
  have:=its_bet (liveE l F n) 0 m (absR x)
  rw[Nat.zero_add] at this
  exact this
theorem goes_ok {l:List S74} {F:List Int} {n:Nat} (hr:Right l F n) {x:Rch} (hx:x.Ok n) {r:Nat→Prop} (hg:NoGain (refE l F) r) (h0: ∀ v c,absR x v=some c→v<n∧r v):(goesR l F n (n+1) x).2=true:=by
 cases h:(goesR l F n (n+1) x).2 with
 |true=>rfl
 |false=>
  obtain⟨_,_,_,h4⟩:=goesR_spec (F:=F) (stTo_lt hr) (n+1) hx
  have hg2:NoGain (liveE l F n) r:=hg.mono (fun e he=>(liveE_mem hr e).1 he)
  exact absurd (settles (fun e he=>refE_in hr e ((liveE_mem hr e).1 he)) hg2 h0 n (by omega)) (h4 h n (by omega))
theorem start_abs (n s:Nat) (hs:s<n) (v:Nat):absR (startR n s) v=if v=s then some 0 else none:=by
 unfold absR startR
 simp only
 by_cases e:v=s
 ·subst e
  rw[getD_set_eq _ _ _ _ (by rw[List.length_replicate];exact hs),Yx rfl,Yx rfl,List.getD_eq_getElem?_getD,List.getElem?_replicate,Yx hs]
  rfl
 ·rw[getD_set_ne _ _ _ _ _ (Ne.symm e),Yy e,List.getD_eq_getElem?_getD,List.getElem?_replicate]
  split<;>simp
end H
namespace H
open P Q
structure Par (l:List S74) (F:List Int) (n s:Nat) (x:Rch) (rk:Nat→Nat) (T:Nat):Prop where
 lt: ∀ v,rk v<T
 is_: ∀ v,v<n→x.I.getD v false=true→v≠s→StepOf l (x.B.getD v z38)∧0<stRoom l F (x.B.getD v z38)∧toP l (x.B.getD v z38)=v∧x.I.getD (frP l (x.B.getD v z38)) false=true∧
  (x.D.getD (frP l (x.B.getD v z38)) 0+stTime l (x.B.getD v z38)<x.D.getD v 0∨(x.D.getD v 0=x.D.getD (frP l (x.B.getD v z38)) 0+stTime l (x.B.getD v z38)∧rk (frP l (x.B.getD v z38))<rk v))
theorem getD_set_if {β:Type} (L:List β) (i j:Nat) (x d:β) (h:i<L.length):(L.set i x).getD j d=if j=i then x else L.getD j d:=by
 by_cases e:j=i
 ·subst e;rw[Yx rfl,getD_set_eq _ _ _ _ h]
 ·rw[Yy e,getD_set_ne _ _ _ _ _ (Ne.symm e)]
theorem par_vis {l:List S74} {F:List Int} {n s v:Nat} {x:Rch} {rk:Nat→Nat} {T:Nat} (h:Par l F n s x rk T) (hk:x.Ok n) (hI:x.I.getD v false=true) {e:S38} (he:e∈stL l v l.length) (hw:toP l e<n):
  ∃ rk' T',Par l F n s (visR l F v x e) rk' T':=by
 unfold visR
 by_cases hc:visC l F v x e=true
 ·rw[Yx hc]
  unfold visC at hc
  rw[Bool.and_eq_true,decide_eq_true_eq] at hc
  obtain⟨hroom,hcond⟩:=hc
  have hfr:frP l e=v:=frP_of he
  obtain⟨w,hwd⟩: ∃ w,w=toP l e:=⟨_,rfl⟩
  have hwt:(stTo l e).toNat=w:=by rw[hwd];rfl
  rw[hwt] at hcond ⊢
  rw[← hwd] at hw
  have hwD:w<x.D.length:=by rw[hk.hD];exact hw
  have hwI:w<x.I.length:=by rw[hk.hI];exact hw
  have hwB:w<x.B.length:=by rw[hk.hB];exact hw
  have hless:x.I.getD w false=true→x.D.getD v 0+stTime l e<x.D.getD w 0:=by
   intro hi
   rw[hi] at hcond
   simpa using hcond
  refine⟨fun u=>if u=w then T else rk u,T+1,⟨fun u=> ?_,fun u hu hIu hne=> ?_⟩⟩
  ·show (if u=w then T else rk u)<T+1
   split
   ·omega
   ·have:=h.lt u;omega
  ·simp only[getD_set_if _ _ _ _ _ hwB,getD_set_if _ _ _ _ _ hwD,getD_set_if _ _ _ _ _ hwI] at hIu ⊢
   by_cases huw:u=w
   ·subst huw
    simp only[if_true]
    rw[hfr]
    refine⟨stL_of he,hroom,hwd.symm,?_,?_⟩
    ·by_cases hvw:v=u
     ·rw[Yx hvw]
     ·rw[Yy hvw];exact hI
    ·by_cases hvw:v=u
     ·subst hvw
      left
      simp only[if_true]
      have:=hless hI
      omega
     ·right
      simp only[Yy hvw]
      exact⟨trivial,h.lt v⟩
   ·simp only[Yy huw] at hIu ⊢
    obtain⟨g1,g2,g3,g4,g5⟩:=h.is_ u hu hIu hne
    refine⟨g1,g2,g3,?_,?_⟩
    ·split
     ·rfl
     ·exact g4
    ·by_cases hfw:frP l (x.B.getD u z38)=w
     ·left
      rw[Yx hfw]
      rw[hfw] at g4 g5
      have:=hless g4
      rcases g5 with g5|⟨g5,_⟩<;>omega
     ·rw[Yy hfw]
      rcases g5 with g5|⟨g5,g6⟩
      ·exact .inl g5
      ·exact .inr ⟨g5,by rw[Yy hfw];exact g6⟩
 ·rw[Yy hc];exact⟨rk,T,h⟩
theorem visR_keeps {l:List S74} {F:List Int} {n v:Nat} {x:Rch} (hk:x.Ok n) (e:S38) (hw:toP l e<n) {u:Nat} (hI:x.I.getD u false=true):(visR l F v x e).I.getD u false=true:=by
 unfold visR
 split
 ·show (x.I.set (toP l e) true).getD u false=true
  rw[getD_set_if _ _ _ _ _ (by rw[hk.hI];exact hw)]
  split
  ·rfl
  ·exact hI
 ·exact hI
theorem par_fold {l:List S74} {F:List Int} {n s v:Nat} (r:List S38): ∀ {x:Rch} {rk:Nat→Nat} {T:Nat},(∀ e,e∈r→e∈stL l v l.length∧toP l e<n)→Par l F n s x rk T→x.Ok n→x.I.getD v false=true→
  ∃ rk' T',Par l F n s (r.foldl (visR l F v) x) rk' T':=by
 induction r with
 |nil=>intro x rk T _ h _ _;exact⟨rk,T,h⟩
 |cons e r ih=>
  intro x rk T hr h hk hI
  obtain⟨h1,h2⟩:=hr e List.mem_cons_self
  obtain⟨rk',T',h3⟩:=par_vis h hk hI h1 h2
  exact ih (fun e he=>hr e (List.mem_cons_of_mem _ he)) h3 (visR_ok hk e) (visR_keeps hk e h2 hI)
theorem par_row {l:List S74} {F:List Int} {n s v:Nat} {x:Rch} {rk:Nat→Nat} {T:Nat} (hw: ∀ e,e∈stL l v l.length→toP l e<n) (h:Par l F n s x rk T) (hk:x.Ok n): ∃ rk' T',Par l F n s (rowR l F x v) rk' T':=by
 unfold rowR
 by_cases hI:x.I.getD v false=true
 ·rw[Yx hI];exact par_fold _ (fun e he=>⟨he,hw e he⟩) h hk hI
 ·rw[Yy hI];exact⟨rk,T,h⟩
theorem par_rows {l:List S74} {F:List Int} {n s:Nat} (hw: ∀ (v:Nat) (e:S38),e∈stL l v l.length→toP l e<n) (vs:List Nat): ∀ {x:Rch} {rk:Nat→Nat} {T:Nat},Par l F n s x rk T→x.Ok n→ ∃ rk' T',Par l F n s (vs.foldl (rowR l F) x) rk' T':=by
 induction vs with
 |nil=>intro x rk T h _;exact⟨rk,T,h⟩
 |cons v vs ih=>
  intro x rk T h hk
  obtain⟨rk',T',h1⟩:=par_row (hw v) h hk
  exact ih h1 (rowR_ok hk)
theorem par_round {l:List S74} {F:List Int} {n s:Nat} (hw: ∀ (v:Nat) (e:S38),e∈stL l v l.length→toP l e<n) {x:Rch} {rk:Nat→Nat} {T:Nat} (h:Par l F n s x rk T) (hk:x.Ok n): ∃ rk' T',Par l F n s (roundR l F n x) rk' T':=
 par_rows hw _ (x:= { x with still:=true }) ⟨h.lt,h.is_⟩ ⟨hk.hD,hk.hI,hk.hB⟩
theorem par_goes {l:List S74} {F:List Int} {n s:Nat} (hr:Right l F n) (k:Nat): ∀ {x:Rch} {rk:Nat→Nat} {T:Nat},Par l F n s x rk T→x.Ok n→ ∃ rk' T',Par l F n s (goesR l F n k x).1 rk' T':=by
 have hw: ∀ v e,e∈stL l (v:Nat) l.length→toP l e<n:=fun v e he=>toP_lt hr (stL_of he)
 induction k with
 |zero=>intro x rk T h _;exact⟨rk,T,h⟩
 |succ k ih=>
  intro x rk T h hk
  obtain⟨rk',T',h1⟩:=par_round hw h hk
  have hk1:=(roundR_abs (F:=F) (stTo_lt hr) hk).1
  unfold goesR
  split
  ·exact⟨rk',T',h1⟩
  ·exact ih h1 hk1
theorem startR_I {n s v:Nat} (hs:s<n):(startR n s).I.getD v false=decide (v=s):=by
 have h:=start_abs n s hs v
 unfold absR at h
 by_cases e:v=s
 ·rw[Yx e] at h
  rw[Yv e]
  cases hI:(startR n s).I.getD v false with
  |true=>rfl
  |false=>rw[hI] at h;cases h
 ·rw[Yy e] at h
  rw[Yw e]
  cases hI:(startR n s).I.getD v false with
  |false=>rfl
  |true=>rw[hI,Yx rfl] at h;cases h
theorem par_start (l:List S74) (F:List Int) {n s:Nat} (hs:s<n):Par l F n s (startR n s) (fun _=>0) 1:=
 ⟨fun _=>Nat.lt_succ_self _,fun v hv hI hne=>by rw[startR_I hs,decide_eq_true_eq] at hI;exact absurd hI hne⟩
def reachS (l:List S74) (F:List Int) (n s:Nat):Rch:=(goesR l F n (n+1) (startR n s)).1
structure ByOk (l:List S74) (F:List Int) (n s:Nat) (x:Rch) (rk:Nat→Nat):Prop where
 is_: ∀ v,v<n→x.I.getD v false=true→v≠s→StepOf l (x.B.getD v z38)∧0<stRoom l F (x.B.getD v z38)∧toP l (x.B.getD v z38)=v∧x.I.getD (frP l (x.B.getD v z38)) false=true∧x.D.getD v 0=x.D.getD (frP l (x.B.getD v z38)) 0+stTime l (x.B.getD v z38)∧rk (frP l (x.B.getD v z38))<rk v
theorem by_ok {l:List S74} {F:List Int} {n s:Nat} (hr:Right l F n) (hs:s<n) (h2:(goesR l F n (n+1) (startR n s)).2=true): ∃ rk,ByOk l F n s (reachS l F n s) rk:=by
 obtain⟨rk,T,h⟩:=par_goes hr (n+1) (par_start l F hs) (startR_ok n s)
 obtain⟨_,_,g3,_⟩:=goesR_spec (F:=F) (stTo_lt hr) (n+1) (startR_ok n s)
 have hq:=g3 h2
 refine⟨rk,⟨fun v hv hI hne=> ?_⟩⟩
 have h:Par l F n s (reachS l F n s) rk T:=h
 obtain⟨a1,a2,a3,a4,a5⟩:=h.is_ v hv hI hne
 have hfl:=frP_lt hr a1
 have hmem:=(mem_esP.1 (esP_of hr a1 a2)).1
 have he:edgeS l (frP l ((reachS l F n s).B.getD v z38)) ((reachS l F n s).B.getD v z38)∈liveE l F n:=by
  unfold liveE
  refine List.mem_flatMap.2 ⟨_,List.mem_range.2 hfl,?_⟩
  unfold liveS
  exact List.mem_map.2 ⟨_,List.mem_filter.2 ⟨hmem,Yv a2⟩,rfl⟩
 have ht:=hq _ he
 have hx:absR (reachS l F n s) (frP l ((reachS l F n s).B.getD v z38))=some ((reachS l F n s).D.getD (frP l ((reachS l F n s).B.getD v z38)) 0):=by unfold absR;rw[Yx a4]
 obtain⟨y,hy,hle⟩:=trig_off ht hx
 have hv2:absR (reachS l F n s) v=some ((reachS l F n s).D.getD v 0):=by unfold absR;rw[Yx hI]
 have hy2:absR (reachS l F n s) (toP l ((reachS l F n s).B.getD v z38))=some y:=hy
 rw[show toP l ((reachS l F n s).B.getD v z38)=v from a3,hv2] at hy2
 injection hy2 with hy2
 have hle:y≤(reachS l F n s).D.getD (frP l ((reachS l F n s).B.getD v z38)) 0+stTime l ((reachS l F n s).B.getD v z38):=hle
 refine⟨a1,a2,a3,a4,?_,?_⟩
 ·rcases a5 with a5|⟨a5,_⟩
  ·have a5:(reachS l F n s).D.getD (frP l ((reachS l F n s).B.getD v z38)) 0+stTime l ((reachS l F n s).B.getD v z38)<(reachS l F n s).D.getD v 0:=a5
   omega
  ·exact a5
 ·rcases a5 with a5|⟨_,a6⟩
  ·have a5:(reachS l F n s).D.getD (frP l ((reachS l F n s).B.getD v z38)) 0+stTime l ((reachS l F n s).B.getD v z38)<(reachS l F n s).D.getD v 0:=a5
   omega
  ·exact a6
def backB (l:List S74) (x:Rch) (s:Nat):Nat→Nat→List S38
 |0,_=>[]
 |k+1,v=>if v=s then [] else(x.B.getD v z38)::backB l x s k (frP l (x.B.getD v z38))
def cntB (rk:Nat→Nat) (n v:Nat):Nat:=(List.range n).countP fun u=>decide (rk u<rk v)
theorem countP_lt {p q:Nat→Bool} : ∀ {L:List Nat} {a:Nat},(∀ u,p u=true→q u=true)→a∈L→q a=true→p a=false→L.countP p<L.countP q
 |[],_,_,h,_,_=>by cases h
 |b::L,a,h,ha,h1,h2=>by
  have hle:L.countP p≤L.countP q:=by
   clear ha
   induction L with
   |nil=>exact Nat.le_refl _
   |cons c L ih=>
    rw[List.countP_cons,List.countP_cons]
    by_cases hc:p c=true
    ·rw[Yx hc,Yx (h c hc)];omega
    ·rw[Yy hc];split<;>omega
  rw[List.countP_cons,List.countP_cons]
  rcases List.mem_cons.1 ha with rfl|ha
  ·rw[h1,h2];simp;omega
  ·have:=countP_lt h ha h1 h2
   by_cases hc:p b=true
   ·rw[Yx hc,Yx (h b hc)];omega
   ·rw[Yy hc];split<;>omega
theorem cntB_lt {rk:Nat→Nat} {n u v:Nat} (hu:u<n) (h:rk u<rk v):cntB rk n u<cntB rk n v:=by
 unfold cntB
 refine countP_lt (a:=u) (fun w hw=> ?_) (List.mem_range.2 hu) (Yv h) (Yw (Nat.lt_irrefl _))
 have:=Yu hw
 exact Yv (by omega)
theorem cntB_le (rk:Nat→Nat) (n v:Nat):cntB rk n v≤n:=by
 unfold cntB
 exact Nat.le_trans List.countP_le_length (by rw[List.length_range];exact Nat.le_refl _)
structure BackOk (l:List S74) (F:List Int) (n s:Nat) (x:Rch) (rk:Nat→Nat) (v:Nat) (C:List S38):Prop where
 leads:Leads (toP l) (esP l F) s C.reverse v
 tight: ∀ e,e∈C→x.I.getD (frP l e) false=true∧x.I.getD (toP l e) false=true∧x.D.getD (toP l e) 0=x.D.getD (frP l e) 0+stTime l e∧rk (frP l e)<rk (toP l e)
 short:C.length≤cntB rk n v
theorem back_ok {l:List S74} {F:List Int} {n s:Nat} {x:Rch} {rk:Nat→Nat} (hr:Right l F n) (h:ByOk l F n s x rk) (k:Nat): ∀ v,v<n→x.I.getD v false=true→cntB rk n v<k→BackOk l F n s x rk v (backB l x s k v):=by
 induction k with
 |zero=>intro v _ _ hk;omega
 |succ k ih=>
  intro v hv hI hk
  unfold backB
  by_cases hvs:v=s
  ·rw[Yx hvs]
   exact⟨hvs.symm,fun e he=>(by cases he),Nat.zero_le _⟩
  ·rw[Yy hvs]
   obtain⟨a1,a2,a3,a4,a5,a6⟩:=h.is_ v hv hI hvs
   have hfl:=frP_lt hr a1
   have hlt:=cntB_lt (n:=n) hfl a6
   obtain⟨b1,b2,b3⟩:=ih _ hfl a4 (by omega)
   refine⟨?_,fun e he=> ?_,?_⟩
   ·rw[List.reverse_cons]
    have h_:=Leads.snoc b1 (esP_of hr a1 a2)
    rw[a3] at h_
    exact h_
   ·rcases List.mem_cons.1 he with rfl|he
    ·rw[a3];exact⟨a4,hI,a5,a6⟩
    ·exact b2 e he
   ·rw[List.length_cons];omega
end H
namespace H
open P Q
theorem rise_apart {l:List S74} (lv:Nat→Nat): ∀ {L:List S38} {a b:Int},Trail l a L b→(∀ s,s∈L→lv (frP l s)<lv (toP l s))→
  L.Pairwise (fun x y=>x.f0≠y.f0)∧ ∀ s,s∈L→lv a.toNat≤lv (frP l s)
 |[],_,_,_,_=>⟨List.Pairwise.nil,fun s hs=>by cases hs⟩
 |x::L,a,b,h,hv=>by
  obtain⟨hs,ha,ht⟩:=h
  have hx:=hv x List.mem_cons_self
  obtain⟨h1,h2⟩:=rise_apart lv ht (fun s hs=>hv s (List.mem_cons_of_mem _ hs))
  refine⟨List.pairwise_cons.2 ⟨fun y hy e=> ?_,h1⟩,fun s hs=> ?_⟩
  ·have h3:=h2 y hy
   have h4:=hv y (List.mem_cons_of_mem _ hy)
   have h5:(frP l y=frP l x∧toP l y=toP l x)∨(frP l y=toP l x∧toP l y=frP l x):=by
    unfold frP toP stFrom stTo
    rw[e]
    cases x.f1<;>cases y.f1<;>simp
   have h6:lv (stTo l x).toNat=lv (toP l x):=rfl
   rcases h5 with ⟨e1,e2⟩|⟨e1,e2⟩
   ·rw[e1] at h3;omega
   ·rw[e1,e2] at h4;omega
  ·rcases List.mem_cons.1 hs with rfl|hs
   ·have:lv (stFrom l s).toNat=lv (frP l s):=rfl
    rw[ha] at this;omega
   ·have:=h2 s hs
    have h6:lv (stTo l x).toNat=lv (toP l x):=rfl
    have h7:lv (stFrom l x).toNat=lv (frP l x):=rfl
    rw[ha] at h7
    omega
theorem push_way {l:List S74} {F:List Int} {n s t:Nat} (hf:IsFlow l F n s t) (hst:s≠t) {L:List S38} (hL:Leads (toP l) (esP l F) s L t) (hap:L.Pairwise (fun a b=>a.f0≠b.f0)):
  IsFlow l (pushW F (leastR l F L) L) n s t∧1≤leastR l F L∧L≠[]∧bal l (pushW F (leastR l F L) L) s=bal l F s+leastR l F L∧(∀ s,s∈L→StepOf l s)∧leastR l F L≤1048576∧(∀ e,e∈L→0<stRoom l F e):=by
 have hne:L≠[]:=by rintro rfl;exact hst hL
 have htr:=leads_trail hf.right (rows:=esP l F) (fun u e h=>(mem_esP.1 h).1) hL
 have hroom: ∀ e,e∈L→0<stRoom l F e:=by
  have key: ∀ (L:List S38) (a b:Nat),Leads (toP l) (esP l F) a L b→ ∀ e,e∈L→0<stRoom l F e:=by
   intro L
   induction L with
   |nil=>intro a b _ e he;cases he
   |cons x L ih=>
    intro a b h e he
    rcases List.mem_cons.1 he with rfl|he
    ·exact(mem_esP.1 h.1).2
    ·exact ih _ _ h.2 e he
  exact key L s t hL
 obtain⟨m,hm,hle⟩:=leastR_in (l:=l) (F:=F) hne
 have h1:1≤leastR l F L:=by rw[hle];exact hroom m hm
 have hr:=Right.pushW (k:=leastR l F L) (by omega) L hf.right (fun e he=>⟨htr.of e he,leastR_le he⟩) hap
 have hb:=fun v=>bal_pushW (leastR l F L) v hf.right.len htr
 have hmx:=(stRoom_in hf.right (htr.of m hm)).2
 refine⟨⟨hr,fun v h0 h1 h2 h3=> ?_⟩,h1,hne,?_,htr.of,by omega,hroom⟩
 ·rw[hb,Yy h2,Yy h3,hf.keeps v h0 h1 h2 h3];rfl
 ·rw[hb,Yx rfl,Yy (by omega)];omega
theorem room_push {l:List S74} {n:Nat} {k:Int} (h0:0≤k) (L:List S38): ∀ {F:List Int},F.length=l.length→(∀ s,s∈L→StepOf l s)→ ∀ e:S38,StepOf l e→0<stRoom l (pushW F k L) e→0<stRoom l F e∨ ∃ x,x∈L∧x.f0=e.f0∧x.f1= !e.f1:=by
 induction L with
 |nil=>intro F _ _ e _ h;exact .inl h
 |cons x L ih=>
  intro F hF hL e he h
  have hx:=hL x List.mem_cons_self
  have h1:0<stRoom l (pushW (goS F x k) k L) e:=h
  rcases ih (by rw[goS_len];exact hF) (fun s hs=>hL s (List.mem_cons_of_mem _ hs)) e he h1 with h2|⟨y,hy,h3,h4⟩
  ·by_cases hne:x.f0=e.f0
   ·by_cases hb:x.f1=e.f1
    ·left
     obtain⟨i,hi,hxi⟩:=hx
     have hei:e.f0=(i:Int):=by rw[← hne];exact hxi
     unfold stRoom goS at h2
     unfold stRoom
     rw[hxi,hei,hb] at h2
     rw[hei]
     simp only[Int.toNat_natCast] at h2 ⊢
     rw[getD_set_eq _ _ _ _ (by omega)] at h2
     cases hb1:e.f1<;>rw[hb1] at h2<;>simp only[Bool.false_eq_true,if_false,if_true] at h2 ⊢ <;>omega
    ·right
     refine⟨x,List.mem_cons_self,hne,?_⟩
     cases h5:x.f1<;>cases h6:e.f1<;>rw[h5,h6] at hb<;>simp at hb ⊢
   ·left
    rw[room_other hx he k hne] at h2
    exact h2
  ·exact .inr ⟨y,List.mem_cons_of_mem _ hy,h3,h4⟩
structure TightWay (l:List S74) (F:List Int) (s t:Nat) (d:Nat→Option Int) (L:List S38):Prop where
 leads:Leads (toP l) (esP l F) s L t
 apart:L.Pairwise (fun a b=>a.f0≠b.f0)
 tight: ∀ e,e∈L→ ∃ x,d (frP l e)=some x∧d (toP l e)=some (x+stTime l e)
theorem span_push {l:List S74} {F:List Int} {n s t:Nat} {c:Int} (h:SpanOk l F n s t c) (hs:s<n) (hst:s≠t) {d:Nat→Option Int} (hd:TightO l F d) (h0:d s=some 0) {x:Int} (hx:d t=some x) (hxc:x<c) {L:List S38} (hL:TightWay l F s t d L):
  SpanOk l (pushW F (leastR l F L) L) n s t c∧bal l F s+1≤bal l (pushW F (leastR l F L) L) s:=by
 obtain⟨p1,p2,p3,p4,p5,p6,p7⟩:=push_way h.flow hst hL.leads hL.apart
 refine⟨⟨p1,?_⟩,by omega⟩
 obtain⟨q,hq,q0,q1⟩:=h.nums
 -- a number above all that is told on the way
 have hK: ∃ K:Int,0≤K∧(∀ y,d s=some y→y≤q s+K)∧(∀ y,d t=some y→y≤q t+K)∧ ∀ e,e∈L→(∀ y,d (frP l e)=some y→y≤q (frP l e)+K)∧ ∀ y,d (toP l e)=some y→y≤q (toP l e)+K:=by
  have one: ∀ v:Nat, ∃ K:Int,0≤K∧ ∀ y,d v=some y→y≤q v+K:=by
   intro v
   cases hv:d v with
   |none=>exact⟨0,Int.le_refl _,fun y hy=>by cases hy⟩
   |some z=>exact⟨max 0 (z - q v),by omega,fun y hy=>by injection hy with hy;omega⟩
  have all: ∀ M:List S38, ∃ K:Int,0≤K∧ ∀ e,e∈M→(∀ y,d (frP l e)=some y→y≤q (frP l e)+K)∧ ∀ y,d (toP l e)=some y→y≤q (toP l e)+K:=by
   intro M
   induction M with
   |nil=>exact⟨0,Int.le_refl _,fun e he=>by cases he⟩
   |cons x M ih=>
    obtain⟨K1,k1,h1⟩:=ih
    obtain⟨K2,k2,h2⟩:=one (frP l x)
    obtain⟨K3,k3,h3⟩:=one (toP l x)
    refine⟨K1+K2+K3,by omega,fun e he=> ?_⟩
    rcases List.mem_cons.1 he with rfl|he
    ·exact⟨fun y hy=>by have:=h2 y hy;omega,fun y hy=>by have:=h3 y hy;omega⟩
    ·exact⟨fun y hy=>by have:=(h1 e he).1 y hy;omega,fun y hy=>by have:=(h1 e he).2 y hy;omega⟩
  obtain⟨K1,k1,h1⟩:=all L
  obtain⟨K2,k2,h2⟩:=one s
  obtain⟨K3,k3,h3⟩:=one t
  refine⟨K1+K2+K3,by omega,fun y hy=>by have:=h2 y hy;omega,fun y hy=>by have:=h3 y hy;omega,fun e he=>⟨fun y hy=>by have:=(h1 e he).1 y hy;omega,fun y hy=>by have:=(h1 e he).2 y hy;omega⟩⟩
 obtain⟨K,_,ks,kt,kL⟩:=hK
 have hp:=TightP.min_ hd (hq.plus K)
 refine⟨minO d (fun v=>q v+K),fun e he hrm=> ?_,?_,?_⟩
 ·rcases room_push (n:=n) (by omega) L h.flow.right.len p5 e he hrm with h1|⟨y,hy,h3,h4⟩
  ·exact hp e he h1
  ·obtain⟨z,z1,z2⟩:=hL.tight y hy
   have e1:toP l e=frP l y:=by unfold toP frP stTo stFrom;rw[h3,h4];cases e.f1<;>simp
   have e2:frP l e=toP l y:=by unfold toP frP stTo stFrom;rw[h3,h4];cases e.f1<;>simp
   have e3:stTime l e= - stTime l y:=by unfold stTime;rw[h3,h4];cases e.f1<;>simp
   have m1:=(kL y hy).1 z z1
   have m2:=(kL y hy).2 _ z2
   rw[e1,e2,e3,minO_some z1,minO_some z2]
   show min z (q (frP l y)+K)≤min (z+stTime l y) (q (toP l y)+K)+ -stTime l y
   omega
 ·rw[minO_some h0]
  have:=ks 0 h0
  show min 0 (q s+K)=0
  omega
 ·rw[minO_some hx]
  have:=kt x hx
  show min x (q t+K)<c
  omega
theorem span_zero {l:List S74} {n s t:Nat} {c:Int} (hr:Right l (List.replicate l.length 0) n) (hc:0<c):SpanOk l (List.replicate l.length 0) n s t c:=
 ⟨(zeros_of hr).1,fun _=>0,tight_zero hr,rfl,hc⟩
end H
namespace H
open P Q
theorem refE_of {l:List S74} {F:List Int} {n:Nat} (hr:Right l F n) {e:S38} (he:StepOf l e) (hrm:0<stRoom l F e):edgeF l e∈refE l F:=by
 unfold refE
 refine List.mem_map.2 ⟨e,(mem_stepsR l F F.length e).2 ⟨?_,hrm⟩,rfl⟩
 obtain⟨i,h1,h2⟩:=he
 exact⟨i,by rw[hr.len];exact h1,h2⟩
theorem tightP_noGain {l:List S74} {F:List Int} {n:Nat} (hr:Right l F n) {q:Nat→Int} (h:TightP l F q):NoGain (refE l F) (fun v=>v<n):=by
 refine Tight.noGain (p:=q) ?_
 intro e he _
 refine⟨(refE_in hr e he).2,?_⟩
 obtain⟨s,hs,rfl⟩:=List.mem_map.1 he
 exact h s (stepsR_of hr s hs) ((mem_stepsR l F F.length s).1 hs).2
structure ReachOk (l:List S74) (F:List Int) (n s:Nat) (x:Rch):Prop where
 ok:x.Ok n
 tight:TightO l F (absR x)
 start:absR x s=some 0
 by_: ∃ rk,ByOk l F n s x rk
theorem reach_ok {l:List S74} {F:List Int} {n s:Nat} (hr:Right l F n) (hs:s<n) (hg:NoGain (refE l F) (fun v=>v<n)):(goesR l F n (n+1) (startR n s)).2=true∧ReachOk l F n s (reachS l F n s):=by
 have h0: ∀ v c,absR (startR n s) v=some c→v<n∧v<n:=by
  intro v c hc
  rw[start_abs n s hs] at hc
  split at hc
  ·rename_i e;omega
  ·cases hc
 have h2:=goes_ok hr (startR_ok n s) hg h0
 have ht:=goes_told hr (startR_ok n s) (n+1) h2
 refine⟨h2,(goesR_spec (F:=F) (stTo_lt hr) (n+1) (startR_ok n s)).1,fun e he hrm x hx=> ?_,?_,by_ok hr hs h2⟩
 ·exact trig_off (ht.still _ (refE_of hr he hrm)) hx
 ·refine still_start ht.still ht.real ht.bet (by rw[start_abs n s hs,Yx rfl]) (fun u x hx=> ?_)
  rw[start_abs n s hs] at hx
  split at hx
  ·assumption
  ·cases hx
def wayS (l:List S74) (F:List Int) (n s t:Nat):List S38:=(backB l (reachS l F n s) s (n+1) t).reverse
theorem wayS_ok {l:List S74} {F:List Int} {n s t:Nat} (hr:Right l F n) (h:ReachOk l F n s (reachS l F n s)) (ht:t<n) (hI:(reachS l F n s).I.getD t false=true):TightWay l F s t (absR (reachS l F n s)) (wayS l F n s t)∧(wayS l F n s t).length≤n:=by
 obtain⟨rk,hb⟩:=h.by_
 obtain⟨b1,b2,b3⟩:=back_ok hr hb (n+1) t ht hI (by have:=cntB_le rk n t;omega)
 refine⟨⟨b1,?_,fun e he=> ?_⟩,by unfold wayS;rw[List.length_reverse];have:=cntB_le rk n t;omega⟩
 ·refine(rise_apart rk (leads_trail hr (rows:=esP l F) (fun u e h=>(mem_esP.1 h).1) b1) (fun e he=> ?_)).1
  exact(b2 e (List.mem_reverse.1 he)).2.2.2
 ·obtain⟨c1,c2,c3,_⟩:=b2 e (List.mem_reverse.1 he)
  refine⟨(reachS l F n s).D.getD (frP l e) 0,by unfold absR;rw[Yx c1],?_⟩
  unfold absR
  rw[Yx c2,c3]
def nearS (l:List S74) (F:List Int) (n s t:Nat) (H:Int):Prop:=(reachS l F n s).I.getD t false=true∧(reachS l F n s).D.getD t 0≤H
instance (l:List S74) (F:List Int) (n s t:Nat) (H:Int):Decidable (nearS l F n s t H):=by unfold nearS;exact inferInstance
def spanS (l:List S74) (n s t:Nat) (H:Int):Nat→List Int→List Int
 |0,F=>F
 |k+1,F=>if nearS l F n s t H then spanS l n s t H k (pushW F (leastR l F (wayS l F n s t)) (wayS l F n s t)) else F
theorem spanS_go {l:List S74} {n s t k:Nat} {H:Int} {F:List Int} (h:nearS l F n s t H):spanS l n s t H (k+1) F=spanS l n s t H k (pushW F (leastR l F (wayS l F n s t)) (wayS l F n s t)):=by rw[spanS,Yx h]
theorem spanS_end {l:List S74} {n s t k:Nat} {H:Int} {F:List Int} (h: ¬ nearS l F n s t H):spanS l n s t H (k+1) F=F:=by rw[spanS,Yy h]
theorem span_near {l:List S74} {F:List Int} {n s t:Nat} {H:Int} (h:SpanOk l F n s t (H+1)) (hs:s<n) (ht:t<n) (hst:s≠t) (hn:nearS l F n s t H):
  SpanOk l (pushW F (leastR l F (wayS l F n s t)) (wayS l F n s t)) n s t (H+1)∧bal l F s+1≤bal l (pushW F (leastR l F (wayS l F n s t)) (wayS l F n s t)) s:=by
 obtain⟨q,hq,_⟩:=h.nums
 obtain⟨_,hR⟩:=reach_ok h.flow.right hs (tightP_noGain h.flow.right hq)
 refine span_push h hs hst hR.tight hR.start (x:=(reachS l F n s).D.getD t 0) (by unfold absR;rw[Yx hn.1]) (by have:=hn.2;omega) (wayS_ok h.flow.right hR ht hn.1).1
theorem spanS_ok {l:List S74} {n s t:Nat} {H:Int} (hs:s<n) (ht:t<n) (hst:s≠t) (k:Nat): ∀ {F:List Int},SpanOk l F n s t (H+1)→209715200 - bal l F s<k→SpanOk l (spanS l n s t H k F) n s t (H+1)∧ ¬ nearS l (spanS l n s t H k F) n s t H:=by
 induction k with
 |zero=>intro F h hk;have:=flow_top h.flow hs hst;omega
 |succ k ih=>
  intro F h hk
  by_cases hn:nearS l F n s t H
  ·rw[spanS_go hn]
   obtain⟨h1,h2⟩:=span_near h hs ht hst hn
   exact ih h1 (by omega)
  ·rw[spanS_end hn];exact⟨h,hn⟩
structure SpanTop (l:List S74) (F:List Int) (n s t:Nat) (H:Int):Prop where
 ok:SpanOk l F n s t (H+1)
 far: ∃ d:Nat→Option Int,TightO l F d∧d s=some 0∧ ∀ x,d t=some x→H+1≤x
theorem SpanTop.le {l:List S74} {F G:List Int} {n s t:Nat} {H:Int} (h:SpanTop l F n s t H) (hg:IsFlow l G n s t) (hs:s<n) (ht:t<n) (hst:s≠t):worthS l G s (H+1)≤worthS l F s (H+1):=by
 obtain⟨d,d1,d2,d3⟩:=h.far
 exact h.ok.top hg hs ht hst d1 d2 d3
theorem spanS_top {l:List S74} {n s t:Nat} {H:Int} (hs:s<n) (ht:t<n) (hst:s≠t) {F:List Int} (h:SpanOk l F n s t (H+1)) (hn: ¬ nearS l F n s t H):SpanTop l F n s t H:=by
 obtain⟨q,hq,_⟩:=h.nums
 obtain⟨_,hR⟩:=reach_ok h.flow.right hs (tightP_noGain h.flow.right hq)
 refine⟨h,absR (reachS l F n s),hR.tight,hR.start,fun x hx=> ?_⟩
 unfold absR at hx
 split at hx
 ·rename_i hI
  injection hx with hx
  have: ¬ (reachS l F n s).D.getD t 0≤H:=fun g=>hn ⟨hI,g⟩
  omega
 ·cases hx
def fillS (l:List S74) (n s t:Nat) (H:Int):List Int:=spanS l n s t H 300000000 (List.replicate l.length 0)
theorem fillS_top {l:List S74} {n s t:Nat} {H:Int} (hr:Right l (List.replicate l.length 0) n) (hs:s<n) (ht:t<n) (hst:s≠t) (hH:0≤H):SpanTop l (fillS l n s t H) n s t H∧ ¬ nearS l (fillS l n s t H) n s t H:=by
 have h0:=span_zero (t:=t) (s:=s) hr (c:=H+1) (by omega)
 have hb:=(zeros_of (s:=s) (t:=t) hr).2
 obtain⟨h1,h2⟩:=spanS_ok (H:=H) hs ht hst 300000000 h0 (by omega)
 exact⟨spanS_top hs ht hst h1 h2,h2⟩
end H
namespace H
open P Q
structure Seen (l:List S74) (F:List Int) (n s:Nat) (t:Int) (st:List (Fd S38)):Prop where
 pre: ∃ r,bfP l F n s=st ++ r
 fds:Fds (frP l) (toP l) (esP l F) s st
 hit:st=bfP l F n s∨ ∃ tn:Nat,t=tn∧tn∈nodes st
structure Lp (l:List S74) (F:List Int) (n s:Nat) (t:Int) (st:List (Fd S38)) (i:Nat):Prop where
 upto:Upto (frP l) (toP l) (esP l F) s i st
 rest:bfs (toP l) (esP l F) (n - i) i st=bfP l F n s
 ile:i≤st.length
 nott: ∀ tn:Nat,t=tn→tn ∉ nodes st
structure Li (l:List S74) (F:List Int) (n s:Nat) (t:Int) (x:Fd S38) (X stj:List (Fd S38)) (i j:Nat):Prop where
 fds:Fds (frP l) (toP l) (esP l F) s stj
 mst: ∀ y,y∈stj→y.lv≤x.lv+1
 at_:stj[i]? =some x
 tail:(((stL l x.v l.length).drop j).filter fun e=>decide (0<stRoom l F e)).foldl (vis (toP l) x.lv) stj=X
 nott: ∀ tn:Nat,t=tn→tn ∉ nodes stj
section
variable {l:List S74} {F:List Int} {n s:Nat} {t:Int}
theorem lp_start (hs:s<n) (ht:t≠s):Lp l F n s t [⟨s,z38,0⟩] 0:=
 ⟨upto_start _ _ _ _ _,rfl,Nat.zero_le _,fun tn e hm=>by simp[nodes] at hm;omega⟩
theorem Lp.seen {st:List (Fd S38)} {i:Nat} (h:Lp l F n s t st i) (hi:i=st.length):Seen l F n s t st:=by
 have e:st=bfP l F n s:=by
  rw[← h.rest]
  cases n - i with
  |zero=>rfl
  |succ k=>unfold bfs;rw[List.getElem?_eq_none (by omega)]
 exact⟨⟨[],by rw[List.append_nil, ← e]⟩,h.upto.fds, .inl e⟩
theorem Lp.len (hr:Right l F n) (hs:s<n) {st:List (Fd S38)} {i:Nat} (h:Lp l F n s t st i):st.length≤n:=fds_len h.upto.fds (esP_to hr) hs
theorem Lp.inner {st:List (Fd S38)} {i:Nat} (h:Lp l F n s t st i) {x:Fd S38} (hx:st[i]? =some x):Li l F n s t x (proc (toP l) (esP l F) st x) st i 0:=
 ⟨h.upto.fds,h.upto.most x hx,hx,by rw[List.drop_zero];rfl,h.nott⟩
theorem Li.next (hr:Right l F n) (hs:s<n) {st:List (Fd S38)} {i:Nat} (h:Lp l F n s t st i) {x:Fd S38} (hx:st[i]? =some x) {stj:List (Fd S38)} (hj:Li l F n s t x (proc (toP l) (esP l F) st x) stj i (stL l x.v l.length).length):Lp l F n s t stj (i+1):=by
 have e:stj=proc (toP l) (esP l F) st x:=by
  have:=hj.tail
  rw[List.drop_of_length_le (Nat.le_refl _)] at this
  exact this
 have hil:=(List.getElem?_eq_some_iff.1 hx).1
 have hl:=h.len hr hs
 refine⟨by rw[e];exact h.upto.next hx,?_,?_,hj.nott⟩
 ·have hrest:=h.rest
  rw[show n - i=(n - (i+1))+1 by omega] at hrest
  rw[e, ← hrest]
  rw[bfs,hx]
 ·have:=(List.getElem?_eq_some_iff.1 hj.at_).1
  omega
theorem row_drop {x:Fd S38} {j:Nat} {e:S38} (he:(stL l x.v l.length)[j]? =some e):(stL l x.v l.length).drop j=e::(stL l x.v l.length).drop (j+1):=by
 obtain⟨hlt,h⟩:=List.getElem?_eq_some_iff.1 he
 rw[List.drop_eq_getElem_cons hlt,h]
theorem Li.skip {x:Fd S38} {X stj:List (Fd S38)} {i j:Nat} (h:Li l F n s t x X stj i j) {e:S38} (he:(stL l x.v l.length)[j]? =some e) (h0: ¬ 0<stRoom l F e∨toP l e∈nodes stj):Li l F n s t x X stj i (j+1):=by
 refine⟨h.fds,h.mst,h.at_,?_,h.nott⟩
 have ht:=h.tail
 rw[row_drop he,List.filter_cons] at ht
 by_cases hr:0<stRoom l F e
 ·rw[Yx (by simpa using hr),List.foldl_cons] at ht
  have hv:vis (toP l) x.lv stj e=stj:=by unfold vis;rw[Yx (h0.resolve_left (fun h=>h hr))]
  rw[hv] at ht
  exact ht
 ·rw[Yy (by simpa using hr)] at ht
  exact ht
theorem Li.add {x:Fd S38} {X stj:List (Fd S38)} {i j:Nat} (h:Li l F n s t x X stj i j) {e:S38} (he:(stL l x.v l.length)[j]? =some e) (hr:0<stRoom l F e) (hn:toP l e ∉ nodes stj):
  Fds (frP l) (toP l) (esP l F) s (stj ++ [⟨toP l e,e,x.lv+1⟩])∧(∀ y,y∈stj ++ [⟨toP l e,e,x.lv+1⟩]→y.lv≤x.lv+1)∧(((stL l x.v l.length).drop (j+1)).filter fun e=>decide (0<stRoom l F e)).foldl (vis (toP l) x.lv) (stj ++ [⟨toP l e,e,x.lv+1⟩])=X∧(stj ++ [⟨toP l e,e,x.lv+1⟩])[i]? =some x:=by
 have hv:vis (toP l) x.lv stj e=stj ++ [⟨toP l e,e,x.lv+1⟩]:=by unfold vis;rw[Yy hn]
 obtain⟨h1,h2⟩:=h.fds.vis h.at_ h.mst (mem_esP.2 ⟨List.mem_of_getElem? he,hr⟩)
 rw[hv] at h1 h2
 have ht:=h.tail
 rw[row_drop he,List.filter_cons,Yx (by simpa using hr),List.foldl_cons,hv] at ht
 exact⟨h1,h2,ht,by rw[List.getElem?_append_left (List.getElem?_eq_some_iff.1 h.at_).1];exact h.at_⟩
theorem Li.put {x:Fd S38} {X stj:List (Fd S38)} {i j:Nat} (h:Li l F n s t x X stj i j) {e:S38} (he:(stL l x.v l.length)[j]? =some e) (hr:0<stRoom l F e) (hn:toP l e ∉ nodes stj) (ht:t≠toP l e):Li l F n s t x X (stj ++ [⟨toP l e,e,x.lv+1⟩]) i (j+1):=by
 obtain⟨h1,h2,h3,h4⟩:=h.add he hr hn
 refine⟨h1,h2,h4,h3,fun tn etn hm=> ?_⟩
 rw[nodes_app] at hm
 rcases List.mem_append.1 hm with hm|hm
 ·exact h.nott tn etn hm
 ·simp[nodes] at hm
  exact ht (by rw[etn,hm])
theorem Li.found {st:List (Fd S38)} {i:Nat} (hp:Lp l F n s t st i) {x:Fd S38} (hx:st[i]? =some x) (hi:i<n) {stj:List (Fd S38)} {j:Nat} (h:Li l F n s t x (proc (toP l) (esP l F) st x) stj i j) {e:S38} (he:(stL l x.v l.length)[j]? =some e) (hr:0<stRoom l F e) (hn:toP l e ∉ nodes stj) (ht:t=toP l e):
  Seen l F n s t (stj ++ [⟨toP l e,e,x.lv+1⟩]):=by
 obtain⟨h1,h2,h3,h4⟩:=h.add he hr hn
 refine⟨?_,h1, .inr ⟨toP l e,ht,by rw[nodes_app];exact List.mem_append_right _ (by simp[nodes])⟩⟩
 obtain⟨r,hr1⟩:=fold_pre (toP l) x.lv (((stL l x.v l.length).drop (j+1)).filter fun e=>decide (0<stRoom l F e)) (stj ++ [⟨toP l e,e,x.lv+1⟩])
 obtain⟨q,hq⟩:=bfs_pre (toP l) (esP l F) (n - (i+1)) (i+1) (proc (toP l) (esP l F) st x)
 have hrest:=hp.rest
 rw[show n - i=(n - (i+1))+1 by omega,bfs,hx] at hrest
 refine⟨r ++ q,?_⟩
 rw[← hrest]
 show bfs (toP l) (esP l F) (n - (i+1)) (i+1) (proc (toP l) (esP l F) st x)=_
 rw[hq, ← h3,hr1,List.append_assoc]
def qOf (st:List (Fd S38)) (i:Nat):List Int:=((nodes st).drop i).map fun v:Nat=>(v:Int)
theorem qOf_cons {st:List (Fd S38)} {i:Nat} {x:Fd S38} (hx:st[i]? =some x):qOf st i=(x.v:Int)::qOf st (i+1):=by
 obtain⟨hlt,h⟩:=List.getElem?_eq_some_iff.1 hx
 unfold qOf nodes
 rw[List.drop_eq_getElem_cons (by simpa using hlt),List.map_cons,List.getElem_map,h]
theorem qOf_snoc {st:List (Fd S38)} {i:Nat} (hi:i≤st.length) (y:Fd S38):qOf (st ++ [y]) i=qOf st i ++ [(y.v:Int)]:=by
 unfold qOf
 rw[nodes_app,List.drop_append_of_le_length (by unfold nodes;simpa using hi),List.map_append]
 rfl
end
end H
namespace H
open P
structure Ks (S:Nat→Prop) (w w':World):Prop where
 os:w'.os=w.os
 tape:w'.tape=w.tape
 output:w'.output=w.output
 size:w.heap.size≤w'.heap.size
 block: ∀ k,k<w.heap.size→ ¬ S k→w'.heap[k]? =w.heap[k]?
section
variable {S T:Nat→Prop} {w w1 w2:World}
theorem Ks.refl (S:Nat→Prop) (w:World):Ks S w w:=⟨rfl,rfl,rfl,Nat.le_refl _,fun _ _ _=>rfl⟩
theorem Ks.trans (h:Ks S w w1) (k:Ks T w1 w2) (hT: ∀ b,T b→b<w.heap.size→S b):Ks S w w2:=
 ⟨k.os.trans h.os,k.tape.trans h.tape,k.output.trans h.output,Nat.le_trans h.size k.size,fun b hb hs=>(k.block b (Nat.lt_of_lt_of_le hb h.size) (fun ht=>hs (hT b ht hb))).trans (h.block b hb hs)⟩
theorem Ks.of_below (h:Below w.heap.size w w1) (S:Nat→Prop):Ks S w w1:=⟨h.os,h.tape,h.output,h.size,fun b hb _=>h.block b hb⟩
theorem Ks.below (h:Ks S w w1) (hb:Below w1.heap.size w1 w2):Ks S w w2:=h.trans (Ks.of_below hb (fun _=>False)) (fun _ h=>h.elim)
theorem Ks.trans' {w0:World} (h:Ks S w w1) (hb:Below w0.heap.size w0 w):Ks S w0 w1:=(Ks.of_below hb S).trans h (fun _ h _=>h)
theorem Ks.set (h:Ks S w w1) {g:Nat} (hg:g<w.heap.size→S g) (j:Nat) (u:Value):Ks S w (w1.setCell ⟨g,j,none⟩ u):=
 ⟨h.os,h.tape,h.output,by simpa [World.setCell] using h.size,fun k hk hs=>(Below.heap_setCell w1 ⟨g,j,none⟩ u k (by rintro rfl;exact hs (hg hk))).trans (h.block k hk hs)⟩
theorem Ks.mono (h:Ks S w w1) (hT: ∀ b,S b→b<w.heap.size→T b):Ks T w w1:=⟨h.os,h.tape,h.output,h.size,fun b hb ht=>h.block b hb (fun hs=>ht (hT b hs hb))⟩
theorem Ks.toBelow {B:Nat} {w0:World} (h:Ks S w w1) (hb:Below B w0 w) (hB:B≤w.heap.size) (hS: ∀ b,S b→B≤b):Below B w0 w1:=
 hb.trans ⟨h.os,h.tape,h.output,h.size,fun k hk=>h.block k (by omega) (fun hs=>by have:=hS k hs;omega)⟩
theorem Ks.blk (h:Ks S w w1) {g:Nat} {o:Obj} (hb:w.heap[g]? =some o) (hs: ¬ S g):w1.heap[g]? =some o:=(h.block g (blk_lt hb) hs).trans hb
theorem Ks.R {α:Type} {d:Kd α} {e base:Nat} {ok:Nat→Prop} {v:Value} {xs:List α} (h:Ks S w w1) (hr:d.R e w base ok v xs) (hok: ∀ k,ok k→k<w.heap.size→ ¬ S k):d.R e w1 base ok v xs:=Kd.R_step hr (fun k ho hlt=>h.block k hlt (hok k ho hlt))
end
structure Qu (w:World) (g:Nat) (A:Option Addr) (R:List Int) (fr sz mo:Nat):Prop where
 hd:w.heap[g]? =some (.cells #[.slice A R.length R.length, .int .i64 (fr:Nat), .int .i64 (sz:Nat), .int .i64 (mo:Nat)] 193 (0,0))
 ring:(A=none∧R=[])∨ ∃ b,A=some ⟨b,0,none⟩∧0<R.length∧w.heap[b]? =some (.cells (nums .i64 R).toArray 3 (0,0))
 szr:sz≤R.length
 frr:fr<R.length∨fr=0∧R=[]
 szm:sz≤mo
 mo50:mo≤50
 len:R.length≤200
def quS (g:Nat) (A:Option Addr) (k:Nat):Prop:=k=g∨ ∃ a,A=some a∧k=a.block
def qL (R:List Int) (fr sz:Nat):List Int:=(List.range sz).map fun i=>R.getD ((fr+i) % R.length) 0
theorem Qu.step {w w1:World} {g:Nat} {A:Option Addr} {R:List Int} {fr sz mo:Nat} (h:Qu w g A R fr sz mo) (hb: ∀ k,k<w.heap.size→quS g A k→w1.heap[k]? =w.heap[k]?):Qu w1 g A R fr sz mo:=by
 refine⟨(hb g (blk_lt h.hd) (.inl rfl)).trans h.hd,?_,h.szr,h.frr,h.szm,h.mo50,h.len⟩
 rcases h.ring with h1|⟨b,h1,h2,h3⟩
 ·exact .inl h1
 ·exact .inr ⟨b,h1,h2,(hb b (blk_lt h3) (.inr ⟨_,h1,rfl⟩)).trans h3⟩
theorem Qu.below {w w1:World} {g:Nat} {A:Option Addr} {R:List Int} {fr sz mo:Nat} (h:Qu w g A R fr sz mo) (hb:Below w.heap.size w w1):Qu w1 g A R fr sz mo:=h.step fun k hk _=>hb.block k hk
theorem Qu.ne {w:World} {g b:Nat} {R:List Int} {fr sz mo:Nat} (h:Qu w g (some ⟨b,0,none⟩) R fr sz mo):g≠b:=by
 rcases h.ring with ⟨h1,_⟩|⟨c,h1,h2,h3⟩
 ·cases h1
 ·cases h1
  exact blk_ne h.hd h3 (by decide)
theorem nums_get (R:List Int) (j:Nat) (h:j<R.length):(nums .i64 R).toArray[j]? =some (.int .i64 (R.getD j 0)):=by
 simp[nums,List.getD_eq_getElem?_getD,List.getElem?_eq_getElem h]
theorem mod_add_one (a b m:Nat):((a+1) % m+b) % m=(a+(b+1)) % m:=by
 rw[Nat.mod_add_mod];congr 1;omega
theorem qL_take (R:List Int) (fr sz:Nat) (hf:fr<R.length):qL R fr (sz+1)=R.getD fr 0::qL R ((fr+1) % R.length) sz:=by
 unfold qL
 rw[List.range_succ_eq_map,List.map_cons,Nat.add_zero,Nat.mod_eq_of_lt hf,List.map_map]
 congr 1
 apply List.map_congr_left
 intro i _
 show R.getD ((fr+(i+1)) % R.length) 0=R.getD (((fr+1) % R.length+i) % R.length) 0
 rw[mod_add_one]
attribute [local irreducible] wpQuiet
set_option maxHeartbeats 1000000 in
set_option maxRecDepth 100000 in
theorem que_len (g:Nat) (A:Option Addr) (R:List Int) (fr sz mo:Nat) (w:World) (h:Qu w g A R fr sz mo):
  Calls Try.prog 166 #[.pointer (some ⟨g,0,none⟩)] w fun e w'=>e= .returned (.int .i64 sz)∧w'=w:=by
 have c2:w.cell? ⟨g,2,none⟩=some (.int .i64 sz):=(Yc h.hd 2).trans rfl
 clear h
 go_enter Try.func166,Try.ntmps166
 go_wp2
 go_ret
 exact⟨rfl,rfl⟩
set_option maxHeartbeats 1000000 in
set_option maxRecDepth 100000 in
theorem take_core (g b m fr sz:Nat) (x:Int) (w:World) (c0:w.cell? ⟨g,0,none⟩=some (.slice (some ⟨b,0,none⟩) m m)) (c1:w.cell? ⟨g,1,none⟩=some (.int .i64 fr)) (c2:w.cell? ⟨g,2,none⟩=some (.int .i64 (sz+1:Nat)))
  (c3:w.cell? ⟨b,fr,none⟩=some (.int .i64 x)) (f1:w.frozen? ⟨g,1,none⟩=false) (f2:w.frozen? ⟨g,2,none⟩=false) (hne:g≠b) (p0:(0:Int)≤(fr:Int)) (p1:(fr:Int)<(m:Int)) (p2:(m:Int)≤200) (p4:(sz:Int)+1≤50) (p5:(0:Int)≤(sz:Int)):
  Calls Try.prog 167 #[.pointer (some ⟨g,0,none⟩)] w fun e w'=>e= .returned (.tuple #[.int .i64 x, .int .i64 0])∧w'=((w.setCell ⟨g,1,none⟩ (.int .i64 (((fr:Int)+1) % (m:Int)))).setCell ⟨g,2,none⟩ (.int .i64 sz)).drew.drew:=by
 have hu:=Try.underlying193
 have p3:(0:Int)<(m:Int):=by omega
 have e1:((sz:Int)+1 == 0)=false:=beq_eq_false_iff_ne.2 (by omega)
 go_enter Try.func167,Try.ntmps167
 go_wp2_with fail
 go_region
 go_wp2_with fail
 go_region
 go_wp2_with fail
 go_ret2
 exact⟨rfl,rfl⟩
theorem que_take (g b:Nat) (R:List Int) (fr sz mo:Nat) (w:World) (h:Qu w g (some ⟨b,0,none⟩) R fr (sz+1) mo):
  Calls Try.prog 167 #[.pointer (some ⟨g,0,none⟩)] w fun e w'=>e= .returned (.tuple #[.int .i64 (R.getD fr 0), .int .i64 0])∧Qu w' g (some ⟨b,0,none⟩) R ((fr+1) % R.length) sz mo∧Ks (fun k=>k=g) w w':=by
 have hfr:fr<R.length:=by
  rcases h.frr with h1|⟨_,h1⟩
  ·exact h1
  ·have:=h.szr;rw[h1] at this;simp at this
 have hl:=h.len
 have hring:w.heap[b]? =some (.cells (nums .i64 R).toArray 3 (0,0)):=by
  rcases h.ring with ⟨h1,_⟩|⟨c,h1,h2,h3⟩
  ·cases h1
  ·cases h1;exact h3
 have hm:=h.szm
 have h50:=h.mo50
 refine(take_core g b R.length fr sz (R.getD fr 0) w ((Yc h.hd 0).trans rfl) ((Yc h.hd 1).trans rfl) ((Yc h.hd 2).trans rfl) ((Yc hring fr).trans (nums_get R fr hfr)) (Yf h.hd 1) (Yf h.hd 2) h.ne (by omega) (by omega) (by omega) (by omega) (by omega)).mono ?_
 rintro e w' ⟨rfl,rfl⟩
 have he:((fr:Int)+1) % (R.length:Int)=(((fr+1) % R.length:Nat):Int):=by rw[Int.natCast_emod];rfl
 rw[he]
 refine⟨rfl,⟨blk_set (blk_set h.hd 1 _) 2 _, .inr ⟨b,rfl,by omega,?_⟩,by have:=h.szr;omega, .inl (Nat.mod_lt _ (by omega)),by omega,h50,hl⟩,?_⟩
 ·exact blk_far (blk_far hring (p:=⟨g,1,none⟩) (Ne.symm h.ne) _) (p:=⟨g,2,none⟩) (Ne.symm h.ne) _
 ·exact(((Ks.refl (fun k=>k=g) w).set (g:=g) (fun _=>rfl) 1 _).set (g:=g) (fun _=>rfl) 2 _).below (below_drew (below_drew (Yo _ _)))
end H
namespace H
open P
def IsI (w:World) (g:Nat) (D:List Int):Prop:=w.heap[g]? =some (.cells (nums .i64 D).toArray 3 (0,0))
def stC (B:List S38):List Value:=B.flatMap fun s=>[.int .i64 s.f0, .bool s.f1]
def IsS (w:World) (g:Nat) (B:List S38):Prop:=w.heap[g]? =some (.cells (stC B).toArray 38 (0,0))
theorem stC_len (B:List S38):(stC B).length=2 * B.length:=by
 induction B with
 |nil=>rfl
 |cons s B ih=>show ([_,_] ++ stC B).length=_;rw[List.length_append,ih,List.length_cons];simp;omega
theorem stC_cons (s:S38) (B:List S38):stC (s::B)= .int .i64 s.f0:: .bool s.f1::stC B:=rfl
theorem stC_get (z:S38): ∀ (B:List S38) (u:Nat),u<B.length→(stC B)[u * 2]? =some (.int .i64 (B.getD u z).f0)∧(stC B)[u * 2+1]? =some (.bool (B.getD u z).f1)
 |[],u,h=>by simp at h
 |s::B,0,_=>⟨rfl,rfl⟩
 |s::B,u+1,h=>by
  have:=stC_get z B u (by simpa using h)
  rw[stC_cons,show (u+1) * 2=(u * 2+1)+1 by omega,List.getElem?_cons_succ,List.getElem?_cons_succ,List.getElem?_cons_succ,List.getElem?_cons_succ,List.getD_cons_succ]
  exact this
theorem stC_set: ∀ (B:List S38) (u:Nat) (s:S38),((stC B).set (u * 2) (.int .i64 s.f0)).set (u * 2+1) (.bool s.f1)=stC (B.set u s)
 |[],u,s=>rfl
 |x::B,0,s=>rfl
 |x::B,u+1,s=>by
  rw[stC_cons,show (u+1) * 2=(u * 2+1)+1 by omega,List.set_cons_succ,List.set_cons_succ,List.set_cons_succ,List.set_cons_succ,stC_set B u s]
  rfl
section
variable {w w1:World} {g:Nat} {D:List Int} {B:List S38}
theorem IsI.lt (h:IsI w g D):g<w.heap.size:=blk_lt h
theorem IsS.lt (h:IsS w g B):g<w.heap.size:=blk_lt h
theorem IsI.same (h:IsI w g D) (e:w1.heap[g]? =w.heap[g]?):IsI w1 g D:=e.trans h
theorem IsS.same (h:IsS w g B) (e:w1.heap[g]? =w.heap[g]?):IsS w1 g B:=e.trans h
theorem IsI.below (h:IsI w g D) (hb:Below w.heap.size w w1):IsI w1 g D:=h.same (hb.block g h.lt)
theorem IsS.below (h:IsS w g B) (hb:Below w.heap.size w w1):IsS w1 g B:=h.same (hb.block g h.lt)
theorem IsI.kept {S:Nat→Prop} (h:IsI w g D) (hk:Ks S w w1) (hs: ¬ S g):IsI w1 g D:=hk.blk h hs
theorem IsS.kept {S:Nat→Prop} (h:IsS w g B) (hk:Ks S w w1) (hs: ¬ S g):IsS w1 g B:=hk.blk h hs
theorem IsI.far (h:IsI w g D) {p:Addr} (hp:g≠p.block) (u:Value):IsI (w.setCell p u) g D:=blk_far h hp u
theorem IsS.far (h:IsS w g B) {p:Addr} (hp:g≠p.block) (u:Value):IsS (w.setCell p u) g B:=blk_far h hp u
theorem IsI.cell (h:IsI w g D) {j:Nat} (hj:j<D.length):w.cell? ⟨g,j,none⟩=some (.int .i64 (D.getD j 0)):=(Yc h j).trans (nums_get D j hj)
theorem IsI.free (h:IsI w g D) (j:Nat):w.frozen? ⟨g,j,none⟩=false:=Yf h j
theorem IsS.free (h:IsS w g B) (j:Nat):w.frozen? ⟨g,j,none⟩=false:=Yf h j
theorem IsS.cell (h:IsS w g B) (z:S38) {j:Nat} (hj:j<B.length):w.cell? ⟨g,j * 2,none⟩=some (.int .i64 (B.getD j z).f0)∧w.cell? ⟨g,j * 2+1,none⟩=some (.bool (B.getD j z).f1):=by
 obtain⟨h1,h2⟩:=stC_get z B j hj
 exact⟨(Yc h _).trans (by simpa using h1),(Yc h _).trans (by simpa using h2)⟩
theorem IsI.put (h:IsI w g D) (j:Nat) (x:Int):IsI (w.setCell ⟨g,j,none⟩ (.int .i64 x)) g (D.set j x):=by
 refine(blk_set h j _).trans ?_
 simp[nums,List.map_set]
theorem IsS.put (h:IsS w g B) (j:Nat) (s:S38):IsS ((w.setCell ⟨g,j * 2,none⟩ (.int .i64 s.f0)).setCell ⟨g,j * 2+1,none⟩ (.bool s.f1)) g (B.set j s):=by
 refine(blk_set (blk_set h (j * 2) _) (j * 2+1) _).trans ?_
 rw[← stC_set]
 simp
theorem IsI.R (h:IsI w g D) (hl:D.length≤9223372036854775807) {base:Nat} (hb:base≤g) {ok:Nat→Prop} (hok:ok g):Kd.R (Kd.int .i64) 3 w base ok (.slice (some ⟨g,0,none⟩) D.length D.length) D:=by
 refine Kd.R_of_own (enc:=Value.int .i64) ?_ (fun k hk=> ?_)
 ·refine⟨by simp[encs], .inr ⟨g,D.length,_,rfl,hb,h,Nat.le_refl _,by simp only[maxLen];omega,by simp[nums],?_⟩⟩
  simp only[nums,encs,Nat.mul_one]
  exact List.take_of_length_le (by simp)
 ·have:g=k:=by simpa [Value.ownBlock] using hk
  subst this;exact hok
theorem IsS.R (h:IsS w g B) (hl:B.length≤9223372036854775807) {base:Nat} (hb:base≤g) {ok:Nat→Prop} (hok:ok g):Kd.R k38 38 w base ok (.slice (some ⟨g,0,none⟩) B.length B.length) B:=by
 refine⟨fun k hk=> ?_,stC B,⟨?_, .inr ⟨g,B.length,_,rfl,hb,h,Nat.le_refl _,by simp only[maxLen];omega,?_,?_⟩⟩,?_,fun j p hj=> ?_⟩
 ·have:g=k:=by simpa [Value.ownBlock] using hk
  subst this;exact hok
 ·rw[stC_len];show 2 * B.length=B.length * 2;omega
 ·show (stC B).toArray.size=B.length * 2
  rw[List.size_toArray,stC_len];omega
 ·show (stC B).toArray.toList.take (B.length * 2)=stC B
  rw[List.take_of_length_le (by simp[stC_len];omega)]
 ·rw[stC_len];show 2 * B.length=B.length * 2;omega
 ·obtain⟨hlt,hp⟩:=List.getElem?_eq_some_iff.1 hj
  obtain⟨h1,h2⟩:=stC_get p B j hlt
  have hg:B.getD j p=p:=by rw[List.getD_eq_getElem?_getD,hj];rfl
  rw[hg] at h1 h2
  have e:((stC B).drop (j * 2)).take 2=[.int .i64 p.f0, .bool p.f1]:=by
   apply List.ext_getElem?
   intro m
   rw[List.getElem?_take,List.getElem?_drop]
   match m with
   |0=>rw[Yx (by omega),Nat.add_zero,h1];rfl
   |1=>rw[Yx (by omega),h2];rfl
   |m+2=>rw[Yy (by omega)];rfl
  show Kd.M k38 w base _ p (((stC B).drop (j * 2)).take 2)
  rw[e]
  exact k38_mkM _ _ _ p
end
end H
namespace P
attribute [local go_sem] max2_int min2_int max_two min_two max_three min_three max_four min_four
def pile_room.f (a0:Int):Option (Bool):=if a0≥0 then(some (decide (a0≤65536))) else(some false)
set_option maxHeartbeats 8000000 in
set_option maxRecDepth 100000 in
theorem pile_room.calls (a0:Int) (r:Bool) (w:World) (h:pile_room.f a0=some r):
  Calls Try.prog 172 #[.int .i64 a0] w fun e w'=>e= .returned (.bool r)∧Drawn0 w w':=by
 have H:(if a0≥0 then(some (decide (a0≤65536))) else(some false))=some r:=h
 clear h
 by_cases c2:a0≥0
 rotate_left
 ·rw[Yy c2] at H
  have c2b0:decide (0≤a0)=false:=Yw c2
  clear c2
  obtain rfl:=Option.some.inj H
  go_enter Try.func172,Try.ntmps172
  go_wp2
  go_ret
  exact⟨by first|rfl|(simp;done)|(simp[*];done),by repeat(first|exact Drawn0.refl _|apply Drawn0.step)⟩
 rw[Yx c2] at H
 have c2b0:decide (0≤a0)=true:=Yv c2
 clear c2
 obtain rfl:=Option.some.inj H
 go_enter Try.func172,Try.ntmps172
 go_wp2
 go_ret
 exact⟨by first|rfl|(simp;done)|(simp[*];done),by repeat(first|exact Drawn0.refl _|apply Drawn0.step)⟩
end P
namespace H
open P
attribute [local irreducible] wpQuiet
theorem info3:(Try.prog.info? 3).map (fun i=>(i.zero,i.size,i.bytes))=some (some (.int .i64 0),1,8):=by kernel_rfl
def ringAt (X:Nat→Int) (m i:Nat):List Int:=(List.range i).map X ++ List.replicate (2 * m+4 - i) 0
theorem made_ring (X:Nat→Int) (m:Nat) (hm:m≤200): ∀ W:World,(Instr.makeSlice 25 (.int .i64 0) (.int .i64 (2 * (m:Int)+4))).run Try.prog W= .ok (.slice (some ⟨W.heap.size,0,none⟩) 0 (2 * m+4)) (W.alloc (.cells (nums .i64 (ringAt X m 0)).toArray 3)):=by
 intro W
 have er:ringAt X m 0=List.replicate (2 * m+4) 0:=by simp[ringAt]
 rw[er]
 obtain⟨i0,hi,hzz⟩:=Option.map_eq_some_iff.1 info3
 simp only[Prod.mk.injEq] at hzz
 obtain⟨hz0,hz1,hz2⟩:=hzz
 have hr:=run_make (P:=Try.prog) W 25 3 i0 (.int .i64 0) Try.underlying25 hi hz0 .i64 .i64 (0:Int) (2 * (m:Int)+4) (by omega) (by omega) (by rw[hz2];omega) (by omega)
 rw[hz1] at hr
 have e1:(2 * (m:Int)+4).toNat=2 * m+4:=by omega
 rw[e1] at hr
 have hl:(madeCells #[Value.int .i64 0] ((2 * m+4) * 1))=(nums .i64 (List.replicate (2 * m+4) 0)).toArray:=by
  apply Array.ext'
  apply List.ext_getElem
  ·simp[nums,madeCells]
  ·intro i h1 h2
   simp[nums,madeCells,Nat.mod_one]
 exact hr.trans (by rw[← hl];rfl)
theorem ringAt_len (X:Nat→Int) (m i:Nat) (h:i≤m):(ringAt X m i).length=2 * m+4:=by simp[ringAt];omega
theorem ringAt_set (X:Nat→Int) (m i:Nat) (h:i<m):(ringAt X m i).set i (X i)=ringAt X m (i+1):=by
 unfold ringAt
 rw[List.set_append_right _ _ (by simp),List.range_succ,List.map_append,List.append_assoc]
 congr 1
 simp only[List.length_map,List.length_range,Nat.sub_self,List.map_cons,List.map_nil,List.cons_append,List.nil_append]
 rw[show 2 * m+4 - i=(2 * m+4 - (i+1))+1 by omega,List.replicate_succ]
 rfl
set_option maxHeartbeats 1000000 in
set_option maxRecDepth 100000 in
theorem grow_nil (g:Nat) (w:World) (c0:w.cell? ⟨g,0,none⟩=some (.slice none 0 0)) (c2:w.cell? ⟨g,2,none⟩=some (.int .i64 0)) (f0:w.frozen? ⟨g,0,none⟩=false) (f1:w.frozen? ⟨g,1,none⟩=false) (c1:w.cell? ⟨g,1,none⟩=some (.int .i64 0)):
  Calls Try.prog 173 #[.pointer (some ⟨g,0,none⟩)] w fun e w'=>e= .returned (.tuple #[])∧w'=((w.alloc (.cells (nums .i64 (ringAt (fun _=>0) 0 0)).toArray 3)).setCell ⟨g,0,none⟩ (.slice (some ⟨w.heap.size,0,none⟩) 4 4)).setCell ⟨g,1,none⟩ (.int .i64 0):=by
 have hu:=Try.underlying193
 have hg:=Yb w _ c0
 have hmk:=made_ring (fun _=>0) 0 (by omega)
 simp only[Int.ofNat_zero,Int.mul_zero,Int.zero_add,Nat.mul_zero,Nat.zero_add,Int.natCast_zero] at hmk
 go_enter Try.func173,Try.ntmps173
 go_wp2_with fail
 go_loopw [2,16] (fun v2 v16 w'=>v2= .slice (some ⟨w.heap.size,0,none⟩) 0 4∧v16= .int .i64 0∧Aside0 (w'=w.alloc (.cells (nums .i64 (ringAt (fun _=>0) 0 0)).toArray 3))) (fun _ _ _=>0)
 case atStart=>exact⟨rfl,rfl,⟨rfl⟩⟩
 case round=>
  obtain⟨rfl,rfl,HW⟩:=hrel
  have hw:=HW.out
  subst hw
  go_wp2_with fail
  exact bodyPost_end (results_none rfl _ _ _) rfl ⟨rfl,rfl⟩
theorem ring_put {W:World} {H:Nat} {X:Nat→Int} {m i:Nat} (h:W.heap[H]? =some (.cells (nums .i64 (ringAt X m i)).toArray 3 (0,0))) (hi:i<m):(W.setCells H (0+i * 1) [.int .i64 (X i)]).heap[H]? =some (.cells (nums .i64 (ringAt X m (i+1))).toArray 3 (0,0)):=by
 rw[show 0+i * 1=i by omega, ← ringAt_set X m i hi]
 refine(blk_set h i (.int .i64 (X i))).trans ?_
 simp[nums,List.map_set]
theorem below_cells {w W:World} {H o:Nat} {v:Value} (h:Below w.heap.size w W) (hH:w.heap.size≤H):Below w.heap.size w (W.setCells H o [v]):=Yh h hH
theorem far_keep {wr W:World} {H o:Nat} {vs:List Value} {a:Addr} {v:Value} (hc:wr.cell? a=some v) (hB:Below wr.heap.size wr W) (hne:a.block≠H):(W.setCells H o vs).cell? a=some v:=
 (World.cell?_of_block (setCells_far vs o a.block hne)).trans (pw_cell_below hB hc)
theorem spare_ok {W wr:World} {H i:Nat} {cs:Array Value} {x:Value} (hb:wr.heap[H]? =some (.cells cs 3 (0,0))) (hW:W.heap[H]? =wr.heap[H]?) (hi:i<cs.size): ∀ j,j<[x].length→(W.cell? ⟨H,0+i * 1+j,none⟩).isSome=true∧W.frozen? ⟨H,0+i * 1+j,none⟩=false:=by
 intro j hj
 have hj0:j=0:=by simpa using hj
 subst hj0
 have h:=hW.trans hb
 refine⟨?_,Yf h _⟩
 rw[Yc h,show 0+i * 1+0=i by omega,Array.getElem?_eq_getElem hi]
 rfl
set_option maxHeartbeats 2000000 in
set_option maxRecDepth 100000 in
theorem grow_core (g b m fr:Nat) (X:Nat→Int) (w:World) (c0:w.cell? ⟨g,0,none⟩=some (.slice (some ⟨b,0,none⟩) m m)) (c1:w.cell? ⟨g,1,none⟩=some (.int .i64 fr)) (c2:w.cell? ⟨g,2,none⟩=some (.int .i64 m)) (hX: ∀ i,i<m→w.cell? ⟨b,(fr+i) % m,none⟩=some (.int .i64 (X i)))
  (f0:w.frozen? ⟨g,0,none⟩=false) (f1:w.frozen? ⟨g,1,none⟩=false) (hm0:0<m) (hm:m≤96) (hfr:fr<m):
  Calls Try.prog 173 #[.pointer (some ⟨g,0,none⟩)] w fun e w'=>e= .returned (.tuple #[])∧ ∃ w1,Below w.heap.size w w1∧w1.heap[w.heap.size]? =some (.cells (nums .i64 (ringAt X m m)).toArray 3 (0,0))∧w'=(w1.setCell ⟨g,0,none⟩ (.slice (some ⟨w.heap.size,0,none⟩) (2 * m+4) (2 * m+4))).setCell ⟨g,1,none⟩ (.int .i64 0):=by
 have hu:=Try.underlying193
 obtain⟨i0,hi,hzz⟩:=Option.map_eq_some_iff.1 info3
 simp only[Prod.mk.injEq] at hzz
 have HI:=Ya hi
 have HS1:=Ya hzz.2.1
 clear hi hzz
 have hg:=Yb w _ c0
 have hb:=Yb w _ (hX 0 hm0)
 have C0:=Ya c0
 have C1:=Ya c1
 have F0:=Ya f0
 have F1:=Ya f1
 have HX:=Ya hX
 have hmk:=made_ring X m (by omega)
 have q1:(m:Int)≤96:=by omega
 have q2:(0:Int)<(m:Int):=by omega
 clear hX
 go_enter Try.func173,Try.ntmps173
 go_wp2_with fail
 clear hmk c0 c1 c2 f0 f1
 go_loopw [2,16] (fun v2 v16 w'=> ∃ i:Nat,i≤m∧v16= .int .i64 i∧v2= .slice (some ⟨w.heap.size,0,none⟩) i (2 * m+4)∧Aside0 (w'.heap[w.heap.size]? =some (.cells (nums .i64 (ringAt X m i)).toArray 3 (0,0)))∧Aside0 (Below w.heap.size w w')) (fun _ v16 _=>m - (intOf v16).toNat)
 case atStart=>exact⟨0,Nat.zero_le _,rfl,rfl,⟨heap_alloc_new w _⟩,⟨Ye (Yo _ _) _⟩⟩
 case round=>
  obtain⟨i,hi,rfl,rfl,HR,HB⟩:=hrel
  by_cases hlt:i<m
  ·have e1:decide ((i:Int)<(m:Int))=true:=Yv (by omega)
   have c0:=pw_cell_below HB.out C0.out
   have c1:=pw_cell_below HB.out C1.out
   have cx:=pw_cell_below HB.out (HX.out i hlt)
   have hwr:IntKind.i64.wrap ((fr:Int)+(i:Int))=(fr:Int)+(i:Int):=IntWalk.i64_in _ (by omega)
   have htm:Int.tmod ((fr:Int)+(i:Int)) (m:Int)=(((fr+i) % m:Nat):Int):=rfl
   have hj1:=Nat.mod_lt (fr+i) hm0
   generalize (fr+i) % m=j at cx htm hj1
   have hj0:(0:Int)≤(j:Int):=by omega
   have hj2:(j:Int)<(m:Int):=by omega
   have hlw:=HB.out.size
   have hmz: ¬ m=0:=by omega
   go_wp2_with fail
   have KB:Below wr.heap.size wr (wr.alloc (.cells #[.int .i64 (X i)] 3)).drew:=below_drew (Ye (Yo _ _) _)
   have K0:=far_keep (H:=w.heap.size) (o:=0+i * 1) (vs:=[.int .i64 (X i)]) c0 KB (by show g≠_;omega)
   have K1:=far_keep (H:=w.heap.size) (o:=0+i * 1) (vs:=[.int .i64 (X i)]) c1 KB (by show g≠_;omega)
   have K2:=far_keep (H:=w.heap.size) (o:=0+i * 1) (vs:=[.int .i64 (X i)]) cx KB (by show b≠_;omega)
   have HR2:=Ya (ring_put (W:=(wr.alloc (.cells #[.int .i64 (X i)] 3)).drew) ((heap_alloc_old _ _ (blk_lt HR.out)).trans HR.out) hlt)
   have HB2:Aside0 (Below w.heap.size w ((wr.alloc (.cells #[.int .i64 (X i)] 3)).drew.setCells w.heap.size (0+i * 1) [.int .i64 (X i)])):=⟨below_cells (below_drew (Ye HB.out _)) (Nat.le_refl _)⟩
   go_region_held3 (fun w'=>w'.cell? ⟨g,0,none⟩=some (.slice (some ⟨b,0,none⟩) m m)∧w'.cell? ⟨g,1,none⟩=some (.int .i64 fr)∧w'.cell? ⟨b,j,none⟩=some (.int .i64 (X i))) (first|exact⟨K0,K1,K2⟩|(go_split_ands;exact⟨K0,K1,K2⟩)|go_keep)
    ((refine step_append_room rfl _ _ _ (by rfl) 3 i0 1 Try.underlying25 HI.out HS1.out w.heap.size 0 i (2 * m+4) (by rfl) ⟨wr.heap.size,0,none⟩ 1 1 [.int .i64 (X i)] (by rfl) (by rfl) (World.news_of_block (cs:= #[.int .i64 (X i)]) (t:=3) (fr:=(0,0)) (heap_alloc_new _ _)) (by simp[Value.oneCell']) (by omega) (spare_ok HR.out (heap_alloc_old _ _ (blk_lt HR.out)) (by simp[nums,ringAt_len _ _ _ hi];omega)) ?_))
   clear K0 K1 K2 KB c0 c1 cx htm hwr
   generalize (wr.alloc (.cells #[.int .i64 (X i)] 3)).drew.setCells w.heap.size (0+i * 1) [.int .i64 (X i)]=w9 at HR2 HB2 ⊢
   go_wp2_with fail
   go_roundw
   case rel=>exact⟨i+1,by omega,by go_num,rfl,HR2,HB2⟩
   case measure=>simp[intOf]<;>omega
  ·have ei:i=m:=by omega
   subst ei
   have e1:decide ((i:Int)<(i:Int))=false:=Yw (by omega)
   have c0:=pw_cell_below HB.out C0.out
   have c1:=pw_cell_below HB.out C1.out
   have f0:wr.frozen? ⟨g,0,none⟩=false:=(HB.out.frozen (p:=⟨g,0,none⟩) hg).trans F0.out
   have f1:wr.frozen? ⟨g,1,none⟩=false:=(HB.out.frozen (p:=⟨g,1,none⟩) hg).trans F1.out
   go_wp2_with fail
   refine bodyPost_end (results_none rfl _ _ _) rfl ⟨rfl,wr,HB.out,HR.out,rfl⟩
theorem ring_full (X:Nat→Int) (m i:Nat) (hi:i<m):(ringAt X m m).getD ((0+i) % (ringAt X m m).length) 0=X i:=by
 rw[ringAt_len X m m (Nat.le_refl _),Nat.zero_add,Nat.mod_eq_of_lt (by omega)]
 unfold ringAt
 rw[List.getD_eq_getElem?_getD,List.getElem?_append_left (by simpa using hi)]
 simp[hi]
theorem que_grow (g:Nat) (A:Option Addr) (R:List Int) (fr mo:Nat) (w:World) (h:Qu w g A R fr R.length mo):
  Calls Try.prog 173 #[.pointer (some ⟨g,0,none⟩)] w fun e w'=>e= .returned (.tuple #[])∧ ∃ R',R'.length=2 * R.length+4∧Qu w' g (some ⟨w.heap.size,0,none⟩) R' 0 R.length mo∧qL R' 0 R.length=qL R fr R.length∧Ks (fun k=>k=g) w w':=by
 have hg:=blk_lt h.hd
 have hs:=h.szm
 have h50:=h.mo50
 rcases h.ring with ⟨rfl,rfl⟩|⟨b,rfl,hp,hb⟩
 ·rcases h.frr with h1|⟨rfl,_⟩
  ·exact absurd h1 (by simp)
  refine(grow_nil g w ((Yc h.hd 0).trans rfl) ((Yc h.hd 2).trans rfl) (Yf h.hd 0) (Yf h.hd 1) ((Yc h.hd 1).trans rfl)).mono ?_
  rintro e w' ⟨rfl,rfl⟩
  have hw: ∀ o,(w.alloc o).heap[g]? =some (.cells #[.slice none 0 0, .int .i64 (0:Nat), .int .i64 (0:Nat), .int .i64 mo] 193 (0,0)):=fun o=>(heap_alloc_old _ _ hg).trans h.hd
  refine⟨rfl,ringAt (fun _=>0) 0 0,ringAt_len _ _ _ (Nat.le_refl _),⟨blk_set (blk_set (hw _) 0 _) 1 _, .inr ⟨_,rfl,by rw[ringAt_len _ _ _ (Nat.le_refl _)];omega,?_⟩,Nat.zero_le _, .inl (by rw[ringAt_len _ _ _ (Nat.le_refl _)];omega),hs,h50,by rw[ringAt_len _ _ _ (Nat.le_refl _)];omega⟩,rfl,?_⟩
  ·exact blk_far (blk_far (heap_alloc_new w _) (p:=⟨g,0,none⟩) (by show w.heap.size≠g;omega) _) (p:=⟨g,1,none⟩) (by show w.heap.size≠g;omega) _
  ·exact(((Ks.refl (fun k=>k=g) w).below (Ye (Yo _ _) _)).set (g:=g) (fun _=>rfl) 0 _).set (g:=g) (fun _=>rfl) 1 _
 ·have hfr:fr<R.length:=by
   rcases h.frr with h1|⟨_,h1⟩
   ·exact h1
   ·rw[h1] at hp;exact absurd hp (by simp)
  refine(grow_core g b R.length fr (fun i=>R.getD ((fr+i) % R.length) 0) w ((Yc h.hd 0).trans rfl) ((Yc h.hd 1).trans rfl) ((Yc h.hd 2).trans rfl) (fun i hi=>(Yc hb _).trans (nums_get R _ (Nat.mod_lt _ hp))) (Yf h.hd 0) (Yf h.hd 1) hp (by omega) hfr).mono ?_
  rintro e w' ⟨rfl,w1,hbw,hr,rfl⟩
  have hw:=(hbw.block g hg).trans h.hd
  have hl:=ringAt_len (fun i=>R.getD ((fr+i) % R.length) 0) R.length R.length (Nat.le_refl _)
  refine⟨rfl,ringAt (fun i=>R.getD ((fr+i) % R.length) 0) R.length R.length,hl,⟨?_, .inr ⟨_,rfl,by omega,?_⟩,by omega, .inl (by omega),hs,h50,by omega⟩,?_,?_⟩
  ·have h2:=blk_set (blk_set hw 0 (.slice (some ⟨w.heap.size,0,none⟩) (2 * R.length+4) (2 * R.length+4))) 1 (.int .i64 0)
   rw[hl]
   exact h2
  ·exact blk_far (blk_far hr (p:=⟨g,0,none⟩) (by show w.heap.size≠g;omega) _) (p:=⟨g,1,none⟩) (by show w.heap.size≠g;omega) _
  ·unfold qL
   apply List.map_congr_left
   intro i hi
   exact ring_full _ _ _ (List.mem_range.1 hi)
  ·exact(((Ks.refl (fun k=>k=g) w).below hbw).set (g:=g) (fun _=>rfl) 0 _).set (g:=g) (fun _=>rfl) 1 _
end H
namespace H
open P
attribute [local irreducible] wpQuiet
set_option maxHeartbeats 2000000 in
set_option maxRecDepth 100000 in
theorem put_core (g b m fr sz mo j:Nat) (x:Int) (w:World) (c0:w.cell? ⟨g,0,none⟩=some (.slice (some ⟨b,0,none⟩) m m)) (c1:w.cell? ⟨g,1,none⟩=some (.int .i64 fr)) (c2:w.cell? ⟨g,2,none⟩=some (.int .i64 sz)) (c3:w.cell? ⟨g,3,none⟩=some (.int .i64 mo)) (y:Int) (cx:w.cell? ⟨b,j,none⟩=some (.int .i64 y)) (hj:(fr+sz) % m=j)
  (f2:w.frozen? ⟨g,2,none⟩=false) (fx:w.frozen? ⟨b,j,none⟩=false) (hne:g≠b) (hsm:sz<m) (hmo:sz<mo) (hm:m≤200) (hfr:fr<m) (hmo2:mo≤50):
  Calls Try.prog 165 #[.pointer (some ⟨g,0,none⟩), .int .i64 x] w fun e w'=>e= .returned (.int .i64 0)∧w'=((w.setCell ⟨b,j,none⟩ (.int .i64 x)).setCell ⟨g,2,none⟩ (.int .i64 ((sz:Int)+1))).drew.drew.drew:=by
 have hu:=Try.underlying193
 have p0:(0:Int)≤(fr:Int):=by omega
 have p1:(fr:Int)<(m:Int):=by omega
 have p2:(m:Int)≤200:=by omega
 have p3:(sz:Int)<(m:Int):=by omega
 have p4:(0:Int)≤(sz:Int):=by omega
 have p5:(sz:Int)≤50:=by omega
 have p6:(0:Int)<(m:Int):=by omega
 have hj2:((fr:Int)+(sz:Int)) % (m:Int)=(j:Int):=by rw[← hj,Int.natCast_emod];rfl
 have hj1:(j:Int)<(m:Int):=by rw[← hj];have:=Nat.mod_lt (fr+sz) (show 0<m by omega);omega
 have hj0:(0:Int)≤(j:Int):=by omega
 have e1:((sz:Int) == (mo:Int))=false:=beq_eq_false_iff_ne.2 (by omega)
 have e2:((sz:Int) == (m:Int))=false:=beq_eq_false_iff_ne.2 (by omega)
 clear hj hsm hmo hfr
 go_enter Try.func165,Try.ntmps165
 go_wp2_with fail
 go_region
 go_wp2_with fail
 go_region
 go_wp2_with fail
 go_region
 go_wp2_with fail
 go_ret
 exact⟨rfl,rfl⟩
theorem qL_put (R:List Int) (fr sz:Nat) (x:Int) (h:sz<R.length):qL (R.set ((fr+sz) % R.length) x) fr (sz+1)=qL R fr sz ++ [x]:=by
 unfold qL
 rw[List.range_succ,List.map_append,List.length_set]
 congr 1
 ·apply List.map_congr_left
  intro i hi
  have hi:=List.mem_range.1 hi
  rw[getD_set_ne]
  intro e
  have h1:(fr+sz - (fr+i)) % R.length=0:=Nat.sub_mod_eq_zero_of_mod_eq e
  rw[show fr+sz - (fr+i)=sz - i by omega,Nat.mod_eq_of_lt (by omega)] at h1
  omega
 ·rw[List.map_cons,List.map_nil,getD_set_eq _ _ _ _ (Nat.mod_lt _ (by omega))]
theorem qu_put {w:World} {g b:Nat} {R:List Int} {fr sz mo:Nat} (h:Qu w g (some ⟨b,0,none⟩) R fr sz mo) (hs:sz<R.length) (hm:sz<mo) (x:Int):
  Qu ((w.setCell ⟨b,(fr+sz) % R.length,none⟩ (.int .i64 x)).setCell ⟨g,2,none⟩ (.int .i64 ((sz:Int)+1))) g (some ⟨b,0,none⟩) (R.set ((fr+sz) % R.length) x) fr (sz+1) mo:=by
 have hne:=h.ne
 have hring:w.heap[b]? =some (.cells (nums .i64 R).toArray 3 (0,0)):=by
  rcases h.ring with ⟨h1,_⟩|⟨c,h1,h2,h3⟩
  ·cases h1
  ·cases h1;exact h3
 refine⟨?_, .inr ⟨b,rfl,by rw[List.length_set];omega,?_⟩,by rw[List.length_set];omega,?_,hm,h.mo50,by rw[List.length_set];exact h.len⟩
 ·rw[List.length_set]
  exact blk_set (blk_far h.hd (p:=⟨b,(fr+sz) % R.length,none⟩) hne _) 2 _
 ·have h1:=blk_far (blk_set hring ((fr+sz) % R.length) (.int .i64 x)) (p:=⟨g,2,none⟩) (Ne.symm hne) (.int .i64 ((sz:Int)+1))
  refine h1.trans ?_
  simp[nums,List.map_set]
 ·rcases h.frr with h1|⟨_,h1⟩
  ·exact .inl (by rw[List.length_set];exact h1)
  ·rw[h1] at hs;exact absurd hs (by simp)
theorem que_put_room (g b:Nat) (R:List Int) (fr sz mo:Nat) (x:Int) (w:World) (h:Qu w g (some ⟨b,0,none⟩) R fr sz mo) (hs:sz<R.length) (hm:sz<mo):
  Calls Try.prog 165 #[.pointer (some ⟨g,0,none⟩), .int .i64 x] w fun e w'=>e= .returned (.int .i64 0)∧ ∃ R',Qu w' g (some ⟨b,0,none⟩) R' fr (sz+1) mo∧qL R' fr (sz+1)=qL R fr sz ++ [x]∧Ks (fun k=>k=g∨k=b) w w':=by
 have hring:w.heap[b]? =some (.cells (nums .i64 R).toArray 3 (0,0)):=by
  rcases h.ring with ⟨h1,_⟩|⟨c,h1,h2,h3⟩
  ·cases h1
  ·cases h1;exact h3
 have hfr:fr<R.length:=by
  rcases h.frr with h1|⟨_,h1⟩
  ·exact h1
  ·rw[h1] at hs;exact absurd hs (by simp)
 have hj:=Nat.mod_lt (fr+sz) (show 0<R.length by omega)
 have h50:=h.mo50
 have hl:=h.len
 refine(put_core g b R.length fr sz mo ((fr+sz) % R.length) x w ((Yc h.hd 0).trans rfl) ((Yc h.hd 1).trans rfl) ((Yc h.hd 2).trans rfl) ((Yc h.hd 3).trans rfl) _ ((Yc hring _).trans (nums_get R _ hj)) rfl (Yf h.hd 2) (Yf hring _) h.ne hs hm (by omega) hfr h50).mono ?_
 rintro e w' ⟨rfl,rfl⟩
 exact⟨rfl,_,(qu_put h hs hm x).below (below_drew (below_drew (below_drew (Yo _ _)))),qL_put R fr sz x hs,(((Ks.refl (fun k=>k=g∨k=b) w).set (g:=b) (fun _=> .inr rfl) _ _).set (g:=g) (fun _=> .inl rfl) _ _).below (below_drew (below_drew (below_drew (Yo _ _))))⟩
theorem que_grow_ (g:Nat) (A:Option Addr) (R:List Int) (fr m mo:Nat) (w:World) (hm:R.length=m) (h:Qu w g A R fr m mo):
  Calls Try.prog 173 #[.pointer (some ⟨g,0,none⟩)] w fun e w'=>e= .returned (.tuple #[])∧ ∃ R',R'.length=2 * m+4∧Qu w' g (some ⟨w.heap.size,0,none⟩) R' 0 m mo∧qL R' 0 m=qL R fr m∧Ks (fun k=>k=g) w w':=by
 subst hm
 exact que_grow g A R fr mo w h
set_option maxHeartbeats 2000000 in
set_option maxRecDepth 100000 in
theorem que_put_grow (g:Nat) (A:Option Addr) (R:List Int) (fr mo:Nat) (x:Int) (w:World) (h:Qu w g A R fr R.length mo) (hm:R.length<mo):
  Calls Try.prog 165 #[.pointer (some ⟨g,0,none⟩), .int .i64 x] w fun e w'=>e= .returned (.int .i64 0)∧ ∃ b R',w.heap.size≤b∧Qu w' g (some ⟨b,0,none⟩) R' 0 (R.length+1) mo∧qL R' 0 (R.length+1)=qL R fr R.length ++ [x]∧Ks (fun k=>k=g) w w':=by
 have hu:=Try.underlying193
 have H:=Ya h
 have h50:=h.mo50
 have c0:w.cell? ⟨g,0,none⟩=some (.slice A R.length R.length):=(Yc h.hd 0).trans rfl
 have c2:w.cell? ⟨g,2,none⟩=some (.int .i64 R.length):=(Yc h.hd 2).trans rfl
 have c3:w.cell? ⟨g,3,none⟩=some (.int .i64 mo):=(Yc h.hd 3).trans rfl
 generalize hml:R.length=m at *
 have HML:=Ya hml
 clear hml h
 have p4:(0:Int)≤(m:Int):=by omega
 have p5:(m:Int)≤50:=by omega
 have e1:((m:Int) == (mo:Int))=false:=beq_eq_false_iff_ne.2 (by omega)
 go_enter Try.func165,Try.ntmps165
 go_wp2_with fail
 go_region
 go_wp2_with fail
 go_region
 go_wp2_with fail
 clear c0 c2 c3
 go_wp2_with (first|(go_at_call 173;refine(que_grow_ g A R fr m mo _ HML.out (H.out.below (below_drew (below_drew (Yo _ _))))).mono ?_;rintro e_ w3 ⟨rfl,R',hl',hq,hql,hk⟩;obtain⟨b,hbe⟩: ∃ b_,b_=w.heap.size:=⟨_,rfl⟩;(have hq:Qu w3 g (some ⟨b,0,none⟩) R' 0 m mo:=by(rw[hbe];exact hq));have HBE:=Ya hbe;clear hbe;have HQ:=Ya hq;have HQL:=Ya hql;have HK:=Ya hk;clear hq hql hk;obtain⟨M,hM⟩: ∃ M_,M_=R'.length:=⟨_,rfl⟩;have c0:w3.cell? ⟨g,0,none⟩=some (.slice (some ⟨b,0,none⟩) M M):=by(rw[hM];exact(Yc HQ.out.hd 0).trans rfl))|fail)
 have hm1:m<M:=by omega
 have hm2:M≤104:=by omega
 have hring:w3.heap[b]? =some (.cells (nums .i64 R').toArray 3 (0,0)):=by
  rcases HQ.out.ring with ⟨h1,_⟩|⟨c,h1,h2,h3⟩
  ·cases h1
  ·cases h1;exact h3
 have hne:=HQ.out.ne
 have c1:w3.cell? ⟨g,1,none⟩=some (.int .i64 0):=(Yc HQ.out.hd 1).trans rfl
 have c2:w3.cell? ⟨g,2,none⟩=some (.int .i64 m):=(Yc HQ.out.hd 2).trans rfl
 have cx:w3.cell? ⟨b,m,none⟩=some (.int .i64 (R'.getD m 0)):=(Yc hring _).trans (nums_get R' _ (by omega))
 have fx:w3.frozen? ⟨b,m,none⟩=false:=Yf hring _
 have f2:=Yf HQ.out.hd 2
 generalize R'.getD m 0=yy at cx
 have HM:=Ya hM
 have HL:=Ya hl'
 clear hM hl' hring
 have q0:(0:Int)<(M:Int):=by omega
 have q1:(m:Int)<(M:Int):=by omega
 have q2:(M:Int)≤104:=by omega
 have hj2:(m:Int) % (M:Int)=(m:Int):=Int.emod_eq_of_lt p4 q1
 go_wp2_with fail
 go_region
 go_wp2_with fail
 go_ret
 have hmod:(0+m) % R'.length=m:=by rw[← HM.out,Nat.zero_add,Nat.mod_eq_of_lt hm1]
 have h1:=qu_put HQ.out (by rw[← HM.out];exact hm1) hm x
 have h2:=qL_put R' 0 m x (by rw[← HM.out];exact hm1)
 rw[hmod] at h1 h2
 refine⟨rfl,b,R'.set m x,by rw[HBE.out];exact Nat.le_refl _,?_,?_,?_⟩
 ·exact h1.below (below_drew (Yo _ _))
 ·exact h2.trans (by rw[HQL.out])
 ·have hk:Ks (fun k=>k=g) w w3:=HK.out.trans' (below_drew (below_drew (Yo _ _)))
  exact(((hk.set (g:=b) (fun hlt=>absurd hlt (by rw[HBE.out];exact Nat.lt_irrefl _)) _ _).set (g:=g) (fun _=>rfl) _ _)).below (below_drew (Yo _ _))
theorem que_new (mo:Nat) (w:World) (h50:mo≤50):
  Calls Try.prog 164 #[.int .i64 (mo:Int)] w fun e w'=> ∃ g,e= .returned (.tuple #[.pointer (some ⟨g,0,none⟩), .int .i64 0])∧w.heap.size≤g∧Qu w' g none [] 0 0 mo∧Below w.heap.size w w':=by
 have hrm:pile_room.f (mo:Int)=some true:=by
  unfold pile_room.f
  rw[Yx (by omega)]
  simp
  omega
 have HRM:=Ya hrm
 clear hrm
 have hu:=Try.underlying193
 go_enter Try.func164,Try.ntmps164
 go_wp2_with (first|(go_at_call 172;refine(pile_room.calls (mo:Int) true _ HRM.out).mono ?_;rintro e_ w1 ⟨rfl,hd⟩;have HD:=Ya hd.below;clear hd)|fail)
 go_ret2
 have hw:=heap_alloc_new w1 (.cells #[.slice none 0 0, .int .i64 0, .int .i64 0, .int .i64 mo] 193)
 exact⟨w1.heap.size,rfl,HD.out.size,⟨hw, .inl ⟨rfl,rfl⟩,Nat.le_refl _, .inr ⟨rfl,rfl⟩,Nat.zero_le _,h50,Nat.zero_le _⟩,Ye HD.out _⟩
theorem que_put (g:Nat) (A:Option Addr) (R:List Int) (fr sz mo:Nat) (x:Int) (w:World) (h:Qu w g A R fr sz mo) (hm:sz<mo):
  Calls Try.prog 165 #[.pointer (some ⟨g,0,none⟩), .int .i64 x] w fun e w'=>e= .returned (.int .i64 0)∧ ∃ (A':Option Addr) (R':List Int) (fr':Nat),Qu w' g A' R' fr' (sz+1) mo∧qL R' fr' (sz+1)=qL R fr sz ++ [x]∧Ks (quS g A) w w'∧ ∀ k,quS g A' k→quS g A k∨w.heap.size≤k:=by
 by_cases hs:sz<R.length
 ·rcases h.ring with ⟨_,h1⟩|⟨b,rfl,_,_⟩
  ·rw[h1] at hs;exact absurd hs (by simp)
  ·refine(que_put_room g b R fr sz mo x w h hs hm).mono ?_
   rintro e w' ⟨rfl,R',h1,h2,h3⟩
   exact⟨rfl,_,R',fr,h1,h2,h3.mono (fun k hk _=>hk.elim .inl (fun h=> .inr ⟨_,rfl,h⟩)),fun k hk=> .inl hk⟩
 ·have e:sz=R.length:=by have:=h.szr;omega
  subst e
  refine(que_put_grow g A R fr mo x w h hm).mono ?_
  rintro e w' ⟨rfl,b,R',h1,h2,h3,h4⟩
  refine⟨rfl,_,R',0,h2,h3,h4.mono (fun k hk _=> .inl hk),fun k hk=> ?_⟩
  rcases hk with rfl|⟨a,ha,rfl⟩
  ·exact .inl (.inl rfl)
  ·cases ha;exact .inr h1
end H
namespace P
attribute [local go_sem] max2_int min2_int max_two min_two max_three min_three max_four min_four
def bits_Mul64.f (a0:Int) (a1:Int):Option (Int × Int):=some (IntKind.u64.wrap ((IntKind.u64.wrap ((IntKind.u64.wrap ((a0 / 4294967296) * (a1 / 4294967296)))+((IntKind.u64.wrap ((IntKind.u64.wrap ((a0 / 4294967296) * (Go.bits .and .u64 a1 4294967295)))+((IntKind.u64.wrap ((Go.bits .and .u64 a0 4294967295) * (Go.bits .and .u64 a1 4294967295))) / 4294967296))) / 4294967296)))+((IntKind.u64.wrap ((Go.bits .and .u64 (IntKind.u64.wrap ((IntKind.u64.wrap ((a0 / 4294967296) * (Go.bits .and .u64 a1 4294967295)))+((IntKind.u64.wrap ((Go.bits .and .u64 a0 4294967295) * (Go.bits .and .u64 a1 4294967295))) / 4294967296))) 4294967295)+(IntKind.u64.wrap ((Go.bits .and .u64 a0 4294967295) * (a1 / 4294967296))))) / 4294967296)),IntKind.u64.wrap (a0 * a1))
set_option maxHeartbeats 8000000 in
set_option maxRecDepth 100000 in
theorem bits_Mul64.calls (a0:Int) (a1:Int) (r1:Int) (r2:Int) (w:World) (h:bits_Mul64.f a0 a1=some (r1,r2)):
  Calls Try.prog 177 #[.int .u64 a0, .int .u64 a1] w fun e w'=>e= .returned (.tuple #[.int .u64 r1, .int .u64 r2])∧Drawn0 w w':=by
 have H:(some (IntKind.u64.wrap ((IntKind.u64.wrap ((IntKind.u64.wrap ((a0 / 4294967296) * (a1 / 4294967296)))+((IntKind.u64.wrap ((IntKind.u64.wrap ((a0 / 4294967296) * (Go.bits .and .u64 a1 4294967295)))+((IntKind.u64.wrap ((Go.bits .and .u64 a0 4294967295) * (Go.bits .and .u64 a1 4294967295))) / 4294967296))) / 4294967296)))+((IntKind.u64.wrap ((Go.bits .and .u64 (IntKind.u64.wrap ((IntKind.u64.wrap ((a0 / 4294967296) * (Go.bits .and .u64 a1 4294967295)))+((IntKind.u64.wrap ((Go.bits .and .u64 a0 4294967295) * (Go.bits .and .u64 a1 4294967295))) / 4294967296))) 4294967295)+(IntKind.u64.wrap ((Go.bits .and .u64 a0 4294967295) * (a1 / 4294967296))))) / 4294967296)),IntKind.u64.wrap (a0 * a1)))=some (r1,r2):=h
 clear h
 simp only[Option.some.injEq,Prod.mk.injEq] at H
 obtain⟨rfl,rfl⟩:=H
 go_enter Try.func177,Try.ntmps177
 go_wp2
 go_ret2
 exact⟨by first|rfl|(simp;done)|(simp[*];done),by repeat(first|exact Drawn0.refl _|apply Drawn0.step)⟩
end P
namespace P
attribute [local go_sem] max2_int min2_int max_two min_two max_three min_three max_four min_four
def bits_Mul.f (a0:Int) (a1:Int):Option (Int × Int):=(bits_Mul64.f a0 a1).bind fun bt438=>(some (bt438.1,bt438.2))
set_option maxHeartbeats 8000000 in
set_option maxRecDepth 100000 in
theorem bits_Mul.calls (a0:Int) (a1:Int) (r1:Int) (r2:Int) (w:World) (h:bits_Mul.f a0 a1=some (r1,r2)):
  Calls Try.prog 171 #[.int .u64 a0, .int .u64 a1] w fun e w'=>e= .returned (.tuple #[.int .u64 r1, .int .u64 r2])∧Drawn0 w w':=by
 have H:((bits_Mul64.f a0 a1).bind fun bt438=>(some (bt438.1,bt438.2)))=some (r1,r2):=h
 clear h
 replace H:=Option.bind_eq_some_iff.mp H
 obtain⟨⟨t438,t439⟩,A30,H⟩:=H
 replace H:(some (t438,t439))=some (r1,r2):=H
 have A3:=Ya A30
 clear A30
 simp only[Option.some.injEq,Prod.mk.injEq] at H
 obtain⟨rfl,rfl⟩:=H
 go_enter Try.func171,Try.ntmps171
 go_wp2_with (first|((with_reducible refine gate_callee (f:=177) rfl ?_);refine goesL_ (some 25) rfl rfl Try.func177 (by kernel_rfl) rfl #[.int .u64 a0, .int .u64 a1] rfl (by(try simp only[List.map_toArray,List.map_cons,List.map_nil]);first|done|rfl|(simp only[List.length_drop,List.length_take];rfl)) ?_;(with_reducible refine(bits_Mul64.calls a0 a1 t438 t439 _ A3.out).mono ?_);rintro e w' ⟨rfl,⟨nd,rfl⟩⟩;refine⟨_,rfl,?_⟩))
 go_ret2
 exact⟨by first|rfl|(simp;done)|(simp[*];done),by repeat(first|exact Drawn0.refl _|apply Drawn0.step)⟩
end P
namespace H
open P
attribute [local irreducible] wpQuiet
theorem mul_small: ∀ n:Nat,n<51→bits_Mul.f 1 (n:Int)=some (0,(n:Int)):=by decide +kernel
theorem info3s:(Try.prog.info? 3).map (·.size)=some 1:=by kernel_rfl
def repAt (x:Int) (n k:Nat):List Value:=nums .i64 (List.replicate k x ++ List.replicate (n - k) 0)
theorem repAt_len (x:Int) (n k:Nat) (h:k≤n):(repAt x n k).length=n:=by simp[repAt,nums];omega
theorem made_rep (x:Int) (n:Nat) (hn:n≤50): ∀ W:World,(Instr.makeSlice 25 (.int .i64 (n:Int)) (.int .i64 (n:Int))).run Try.prog W= .ok (.slice (some ⟨W.heap.size,0,none⟩) n n) (W.alloc (.cells (repAt x n 0).toArray 3)):=by
 intro W
 rw[print_make 25 3 .i64 8 Try.underlying25 (by kernel_rfl) (by omega) n (by omega) W]
 have hl:(madeCells #[Value.int .i64 0] n)=(repAt x n 0).toArray:=by
  apply Array.ext'
  apply List.ext_getElem
  ·simp[repAt,nums,madeCells]
  ·intro i h1 h2
   simp[repAt,nums,madeCells,Nat.mod_one]
 rw[hl]
theorem repAt_splice (x:Int) (n k m:Nat) (hk:k+m≤n):splice (repAt x n k) k (nums .i64 (List.replicate m x))=repAt x n (k+m):=by
 unfold repAt nums
 simp only[List.map_append,List.map_replicate]
 unfold splice
 rw[List.take_append_of_le_length (by simp),List.take_of_length_le (by simp),List.drop_append,List.drop_eq_nil_of_le (by simp),List.nil_append, ← List.append_assoc,List.replicate_append_replicate]
 simp
 omega
theorem nums_one (L:List Int): ∀ v,v∈nums .i64 L→v.oneCell'=true:=by
 intro v hv
 obtain⟨_,_,rfl⟩:=List.mem_map.1 hv
 rfl
theorem one_cell {W:World} {b:Nat} {u:Value} (hc:W.cell? ⟨b,0,none⟩=some u): ∀ (j:Nat) (v:Value),[u][j]? =some v→W.cell? ((⟨b,0,none⟩:Addr).add j)=some v:=by
 intro j v hv
 cases j with
 |zero=>rw[add_plain];injection hv with hv;rw[← hv];exact hc
 |succ j=>cases hv
set_option maxHeartbeats 2000000 in
set_option maxRecDepth 100000 in
theorem repeat_core (b c n:Nat) (x:Int) (w:World) (hb:w.cell? ⟨b,0,none⟩=some (.int .i64 x)) (hn0:0<n) (hn:n≤50):
  Calls Try.prog 163 #[.slice (some ⟨b,0,none⟩) 1 1, .int .i64 (n:Int)] w fun e w'=>e= .returned (.slice (some ⟨w.heap.size,0,none⟩) n n)∧w'.heap[w.heap.size]? =some (.cells (nums .i64 (List.replicate n x)).toArray 3 (0,0))∧Below w.heap.size w w':=by
 have hmul:=mul_small n (by omega)
 have HM:=Ya hmul
 clear hmul
 have hmk:=made_rep x n hn
 have hbl:=Yb w _ hb
 have HBC:=Ya hb
 have q1:(n:Int)≤50:=by omega
 have q2:(0:Int)<(n:Int):=by omega
 have e1:decide ((n:Int)<0)=false:=Yw (by omega)
 go_enter Try.func163,Try.ntmps163
 go_wp2_with (first|(go_at_call 171;refine(bits_Mul.calls 1 (n:Int) 0 (n:Int) _ HM.out).mono ?_;rintro e_ w1 ⟨rfl,hd⟩;obtain⟨nq,hnq⟩:=hd.out;subst hnq)|((with_reducible refine wpList_copy_splice rfl (.tmp 31) (.tmp 32) 25 25 rfl 3 Try.underlying25 info3s (some ⟨w.heap.size,0,none⟩) (some ⟨b,0,none⟩) n n 1 1 rfl rfl w.heap.size 0 (repAt x n 0) 3 (heap_alloc_new _ _) [.int .i64 x] ?cn (fun _=>⟨rfl,⟨b,0,none⟩,rfl,?cc⟩) ?cf ?c1 w.heap.size w ?cb (Nat.le_refl _) ?_);(case cn=>(show 1=min 1 n;omega));(case cc=>exact one_cell (pw_cell_below (Ye (Yd (Yo _ _) nq) _) HBC.out));(case cf=>(rw[repAt_len x n 0 (Nat.zero_le _)];show 0+1≤n;omega));(case c1=>simp[Value.oneCell']);(case cb=>exact Ye (Yd (Yo _ _) nq) _);intro w2 hr hbw;have HR:=Ya (hr.trans (by rw[show ([.int .i64 x]:List Value)=nums .i64 (List.replicate 1 x) from rfl,repAt_splice x n 0 1 (by omega)]));have HB:=Ya hbw;clear hr hbw)|fail)
 clear hmk
 go_loopw [8] (fun v8 w'=> ∃ k:Nat,0<k∧k≤n∧v8= .int .i64 k∧Aside0 (w'.heap[w.heap.size]? =some (.cells (repAt x n k).toArray 3 (0,0)))∧Aside0 (Below w.heap.size w w')) (fun v8 _=>n - (intOf v8).toNat)
 case atStart=>exact⟨1,by omega,by omega,rfl,HR,HB⟩
 case round=>
  clear HR HB
  obtain⟨k,hk0,hk,rfl,HR,HB⟩:=hrel
  by_cases hlt:k<n
  ·have e2:decide ((k:Int)<(n:Int))=true:=Yv (by omega)
   have r0:(0:Int)≤(k:Int):=by omega
   have r1:(k:Int)≤(n:Int):=by omega
   have r2:(k:Int)<(n:Int):=by omega
   have r3: ¬ n=k:=by omega
   obtain⟨m,hm⟩: ∃ m_,m_=min k (n - k):=⟨_,rfl⟩
   have hm1:k+m≤n:=by omega
   have hm2:0<m:=by omega
   have hm3:m≤k:=by omega
   have hsrc: ∀ (W:World),W.heap=wr.heap→ ∀ (j:Nat) (v:Value),(nums .i64 (List.replicate m x))[j]? =some v→W.cell? ((⟨w.heap.size,0,none⟩:Addr).add j)=some v:=by
    intro W hW j v hv
    rw[add_plain,World.cell?_of_block (w:=wr) (by rw[hW]),Yc HR.out j]
    have hj:j<m:=by have:=(List.getElem?_eq_some_iff.1 hv).1;simpa [nums] using this
    rw[← hv]
    simp only[repAt,nums,List.map_append,List.map_replicate,List.getElem?_toArray]
    rw[List.getElem?_append_left (by simp;omega),List.getElem?_replicate,List.getElem?_replicate,Yx (by omega),Yx hj]
   have HS:=Ya hsrc
   have HM2:Aside0 ((nums .i64 (List.replicate m x)).length=Nat.min k (n - k)):=⟨by rw[nums_length,List.length_replicate];exact hm⟩
   have HFT:Aside0 (k+(nums .i64 (List.replicate m x)).length≤(repAt x n k).length):=⟨by rw[repAt_len x n k hk,nums_length,List.length_replicate];exact hm1⟩
   clear hsrc hm
   have hwr:IntKind.i64.wrap ((k:Int)+(m:Int))=(k:Int)+(m:Int):=IntWalk.i64_in _ (by omega)
   go_wp2_with fail
   go_region_held3 (fun w'=>True) (trivial)
    ((refine step_copy_splice rfl _ _ 25 25 (by rfl) 3 Try.underlying25 info3s (some ⟨w.heap.size,k,none⟩) (some ⟨w.heap.size,0,none⟩) (n - k) (n - k) k n (by rfl) (by rfl) w.heap.size k (repAt x n k) 3 HR.out _ HM2.out (fun _=>⟨rfl,⟨w.heap.size,0,none⟩,rfl,HS.out _ (by rfl)⟩) HFT.out (nums_one _) w.heap.size w (below_drew HB.out) (Nat.le_refl _) ?_;intro w9 hr9 hb9))
   have HR9:Aside0 (w9.heap[w.heap.size]? =some (.cells (repAt x n (k+m)).toArray 3 (0,0))):=⟨by rw[← repAt_splice x n k m hm1];exact hr9⟩
   have HB9:=Ya hb9
   rw[nums_length,List.length_replicate,hwr]
   clear hr9 hb9 hwr HM2 HFT HS
   go_wp2_with fail
   go_roundw
   case rel=>exact⟨k+m,by omega,hm1,by go_num,HR9,HB9⟩
   case measure=>simp[intOf];omega
  ·have ek:k=n:=by omega
   subst ek
   have e2:decide ((k:Int)<(k:Int))=false:=Yw (by omega)
   go_wp2_with fail
   go_ret
   exact⟨rfl,HR.out.trans (by simp[repAt]),HB.out⟩
end H
namespace H
theorem exists_least {P:Nat→Prop} : ∀ m,P m→ ∃ n,P n∧ ∀ k,P k→n≤k:=by
 intro m
 induction m using Nat.strongRecOn with
 |_ m ih=>
  intro hm
  by_cases h: ∃ k,k<m∧P k
  ·obtain⟨k,hk,hp⟩:=h
   exact ih k hk hp
  ·exact⟨m,hm,fun k hk=>Nat.le_of_not_lt fun hl=>h ⟨k,hl,hk⟩⟩
open Classical in
noncomputable def least (P:Nat→Prop):Nat:=if h: ∃ n,P n∧ ∀ k,P k→n≤k then Classical.choose h else 0
theorem least_both {P:Nat→Prop} (h: ∃ m,P m):P (least P)∧ ∀ k,P k→least P≤k:=by
 obtain⟨m,hm⟩:=h
 unfold least
 rw[dif_pos (exists_least m hm)]
 exact Classical.choose_spec (exists_least m hm)
theorem least_spec {P:Nat→Prop} (h: ∃ m,P m):P (least P):=(least_both h).1
theorem least_le {P:Nat→Prop} {m:Nat} (h:P m):least P≤m:=(least_both ⟨m,h⟩).2 m h
theorem least_lt {P Q:Nat→Prop} {m:Nat} (h:Q m) (hm:m<least P):least Q<least P:=Nat.lt_of_le_of_lt (least_le h) hm
end H
end Go.Proofs.Ytkcpanpdipmmmaa
