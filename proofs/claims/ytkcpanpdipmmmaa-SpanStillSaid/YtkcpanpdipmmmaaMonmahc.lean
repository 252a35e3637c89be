/- What the law's row needs of these texts, taken out of them by wip/tool/mini.py: QLists QStepsLaw QSetLaw QQuietB QSortIns QSymLo QSymHi QSymMid QSortAll QArrRow QSetBase QBase QRefLaw QNet P17 QFlowA QFlowB QPushLaw QCutLaw QFlowLaw QMaxLaw QCheapLaw QSpanLaw P18 QSetFm. -/
import Derived.Test.YtkcpanpdipmmmaaMbioojn
import Derived.RegionTactic
import Derived.ChangeAlike
import Derived.BigRegion
import Derived.LoopTactic
import Derived.WalkKit
import Derived.Laws.AppendOwn
import Derived.Test.YtkcpanpdipmmmaaVebhacm
import Derived.Deep.QuietTactic
import Derived.Deep.RegionWith
import Derived.Deep.RegionHeld3
import Derived.StillTailTactics
import Derived.Test.YtkcpanpdipmmmaaProg
set_option linter.unusedVariables false
set_option linter.unusedSimpArgs false
open Go.RowKit Go.Proofs.YtkcpanpdipmmmaaW.PrintWords Go.Proofs.YtkcpanpdipmmmaaW.PrintLast Go.Proofs.YtkcpanpdipmmmaaW.PrintMore
namespace Go.Proofs.Ytkcpanpdipmmmaa
namespace H
open P
theorem infoRow:(Try.prog.info? 25).map (fun i=>(i.zero,i.size,i.bytes))=some (some (.slice none 0 0),1,24):=by kernel_rfl
def eFrom (x:S74):Int:=x.f0
def eTo (x:S74):Int:=x.f1
def lsAt (E:S74→Int) (l:List S74) (n:Nat):Nat→List (List Int)
 |0=>List.replicate n []
 |k+1=>(lsAt E l n k).set (E (rd_T74 l k)).toNat (rd_L7 (lsAt E l n k) (E (rd_T74 l k)) ++ [(k:Int)])
theorem lsAt_len (E:S74→Int) (l:List S74) (n k:Nat):(lsAt E l n k).length=n:=by
 induction k with
 |zero=>exact List.length_replicate
 |succ k ih=>show (List.set _ _ _).length=n;rw[List.length_set,ih]
theorem lsAt_row (E:S74→Int) (l:List S74) (n k:Nat) (i:Int):(rd_L7 (lsAt E l n k) i).length≤k:=by
 induction k generalizing i with
 |zero=>
  unfold rd_L7 lsAt
  rw[List.getD_eq_getElem?_getD,List.getElem?_replicate]
  split<;>simp
 |succ k ih=>
  unfold rd_L7
  show ((List.set _ _ _).getD i.toNat []).length≤k+1
  rw[List.getD_eq_getElem?_getD,List.getElem?_set]
  have hi:=ih i
  unfold rd_L7 at hi
  rw[List.getD_eq_getElem?_getD] at hi
  split
  ·split
   ·have:=ih (E (rd_T74 l k))
    simp only[Option.getD_some,List.length_append,List.length_cons,List.length_nil]
    omega
   ·simp
  ·omega
set_option maxHeartbeats 4000000 in
set_option maxRecDepth 100000 in
theorem listsFrom_calls (Zc:Int) (Zb:Bool) (Ze:Option Addr) (Zd:Nat) (Za:List S74) (w:World) (Zq:Kd.C k74 w Ze Za.length Za) (Zr:Za.length≤Zd) (h0:0≤Zc) (h1:Zc≤1000000) (hl:Za.length≤1000000) (hE: ∀ k:Nat,k<Za.length→0≤eFrom (rd_T74 Za k)∧eFrom (rd_T74 Za k)<Zc):
  Calls Try.prog 159 #[.agg #[.int .i64 Zc, .bool Zb, .slice Ze Za.length Zd], .func (.func 160) #[] #[]] w fun e w'=> ∃ v0_:Value,e= .returned v0_∧Kd.S (Kd.slice 3 (Kd.int .i64)) 25 w' w.heap.size (fun _=>True) v0_ (lsAt eFrom Za Zc.toNat Za.length)∧Below w.heap.size w w':=by
 have hu24:=Try.underlying24
 have hu74:=Try.underlying74
 have Zl:=Ya Zq
 have Xd:=Ya Zr
 have HE:=Ya hE
 clear Zq Zr hE
 have HB:=Ya (Yo w.heap.size w)
 have c2b1:decide (0≤Zc)=true:=Yv h0
 have c3b1:decide ((Zc:Int).toNat≤11728124029610)=true:=Yv (by omega)
 have c2b0:=eq_true h0
 have c3b0:((Zc:Int).toNat≤11728124029610)=True:=eq_true (by omega)
 have HH0:=Ya h0
 have HH1:=Ya h1
 clear h0 h1
 go_enter Try.func159,Try.ntmps159
 go_wp2_with (first|((with_reducible refine gate_dst (N:=2) rfl ?_);refine Yz ?hg (N:=2) ?hd (cs:= #[.int .i64 Zc, .bool Zb, .slice Ze Za.length Zd]) (t:=24) ?hr ?_;(case hd=>rfl);(case hg=>rfl);(case hr=>first|(go_simp;done)|(go_simp;rfl));intro Xu hg w4 Zf hb;have n0_:=Ya (Yk (by repeat(first|(with_reducible first|exact HB.out|apply Ye|apply Yd|apply Yg)|exact HB.out)) hb);have n1_:=Ya (Zf);have n3_:=Ya ((by rw[hg];exact(Yi (by repeat(first|(with_reducible first|exact HB.out|apply Ye|apply Yd|apply Yg)|exact HB.out))):w.heap.size≤Xu));clear HB;have HB:=n0_;have Zm:=n1_;have Vx:=n3_;clear n0_ n1_ n3_;clear hb Zf hg;have hcz5_0:w4.cell? ⟨Xu,0,none⟩=some (.int .i64 Zc):=(Yc Zm.out 0).trans rfl;have hcz5_1:w4.cell? ⟨Xu,1,none⟩=some (.bool Zb):=(Yc Zm.out 1).trans rfl;have hcz5_2:w4.cell? ⟨Xu,2,none⟩=some (.slice Ze Za.length Zd):=(Yc Zm.out 2).trans rfl;have hfz5_0:=Yf Zm.out 0;have hfz5_1:=Yf Zm.out 1;have hfz5_2:=Yf Zm.out 2)|((with_reducible refine gate_dst (N:=11) rfl ?_);refine Kd.S_make (Kd.slice 3 (Kd.int .i64)) _ 25 rfl (N:=11) rfl 154 _ _ rfl Zc rfl rfl Try.underlying154 (.slice none 0 0) 24 infoRow rfl (by decide) (by omega) [] (ok:=fun _=>True) (okp:=fun _=>True) ⟨_,rfl,Kd.R_nil _ _ _ _ _⟩ (fun _ hk=>hk) trivial (Yu (by first|(with_reducible assumption)|assumption)) (Nat.le_trans (Nat.mul_le_mul_right _ (Yu (by first|(with_reducible assumption)|assumption):Zc.toNat≤11728124029610)) (by omega)) (Yo _ _) (Nat.le_refl _) ?_;intro v113 w6 ho7 hb hg_ hnew_;clear hg_ hnew_;have n0_:=Ya (Kd.S_lower ho7 (Yi (by repeat(first|(with_reducible first|exact HB.out|apply Ye|apply Yd|apply Yg|refine Yh ?_ Vx.out)|exact HB.out))));have n1_:=Ya (Yn (g:=Xu) (o:= .cells #[.int .i64 Zc, .bool Zb, .slice Ze Za.length Zd] 24 (0,0)) (by(with_reducible repeat(first|refine Yl ?_ _|refine Ym ?_|refine Yj ?_ _));exact Zm.out) hb);have n2_:=Ya (Yk (by repeat(first|(with_reducible first|exact HB.out|apply Ye|apply Yd|apply Yg|refine Yh ?_ Vx.out)|exact HB.out)) hb);clear Zm;clear HB;have HO114:=n0_;have Zm:=n1_;have HB:=n2_;clear n0_ n1_ n2_;clear hb ho7;have hcz8_0:w6.cell? ⟨Xu,0,none⟩=some (.int .i64 Zc):=(Yc Zm.out 0).trans rfl;have hcz8_1:w6.cell? ⟨Xu,1,none⟩=some (.bool Zb):=(Yc Zm.out 1).trans rfl;have hcz8_2:w6.cell? ⟨Xu,2,none⟩=some (.slice Ze Za.length Zd):=(Yc Zm.out 2).trans rfl;have hfz8_0:=Yf Zm.out 0;have hfz8_1:=Yf Zm.out 1;have hfz8_2:=Yf Zm.out 2))
 go_loopw [15] (fun v15 w'=> ∃ k:Nat,k≤Za.length∧v15= .int .i64 k∧Aside0 (Kd.S (Kd.slice 3 (Kd.int .i64)) 25 w' w.heap.size (fun _=>True) v113 (lsAt eFrom Za Zc.toNat k))∧Aside0 (w'.heap[Xu]? =some (.cells #[.int .i64 Zc, .bool Zb,(.slice Ze Za.length Zd)] 24 (0,0)))∧Aside0 (Below w.heap.size w w')) (fun v15 _=>Za.length - (intOf v15).toNat)
 case atStart=>exact⟨0,Nat.zero_le _,rfl,⟨by(with_reducible repeat(first|apply Kd.S_alloc|apply Kd.S_drewN|apply Kd.S_drew));exact HO114.out⟩,⟨by(with_reducible repeat(first|refine Yl ?_ _|refine Ym ?_|refine Yj ?_ _));exact Zm.out⟩,⟨(by repeat(first|(with_reducible first|exact HB.out|apply Ye|apply Yd|apply Yg|refine Yh ?_ Vx.out)|exact HB.out))⟩⟩
 case round=>
  try clear c2b0
  try clear c2b1
  try clear c3b0
  try clear c3b1
  try clear hcz5_0 hcz5_1 hcz5_2 hcz8_0 hcz8_1 hcz8_2 hfz5_0 hfz5_1 hfz5_2 hfz8_0 hfz8_1 hfz8_2
  clear HO114 Zm HB
  obtain⟨k,hk,rfl,HO_3,Zm,HB⟩:=hrel
  by_cases hlt:k<Za.length
  ·have hEk:=HE.out k hlt
   obtain⟨ex,hex0⟩: ∃ ex,eFrom (rd_T74 Za (k:Int))=ex:=⟨_,rfl⟩
   have hex:=Ya hex0
   have LSN:Aside0 (lsAt eFrom Za Zc.toNat (k+1)=(lsAt eFrom Za Zc.toNat k).set (ex:Int).toNat (rd_L7 (lsAt eFrom Za Zc.toNat k) ex ++ [(k:Int)])):=⟨by rw[← hex0];rfl⟩
   rw[hex0] at hEk
   clear hex0
   have hlen:=lsAt_len eFrom Za Zc.toNat k
   have c12b0:decide (0≤ex)=true:=Yv hEk.1
   have c13b0:decide (ex<((lsAt eFrom Za Zc.toNat k).length:Int))=true:=Yv (by rw[hlen];have:=HH0.out;omega)
   have LMc14:Aside0 ((rd_L7 (lsAt eFrom Za Zc.toNat k) ex).length<17592186044416):=⟨by have:=lsAt_row eFrom Za Zc.toNat k ex;omega⟩
   clear hEk hlen
   have p115:0≤((k:Nat):Int):=by omega
   have q115:((k:Nat):Int)<(Za.length:Int):=by omega
   obtain⟨Jv,e115,Jm,Jn,Jo,Jp⟩:=at_T74 Zl.out (k:Int) p115 q115
   simp only[Int.toNat_natCast] at Jm Jn Jo Jp
   cases e115
   replace Jm:=(HB.out.cell (Yb w _ Jm)).trans Jm
   replace Jn:=(HB.out.cell (Yb w _ Jn)).trans Jn
   replace Jo:=(HB.out.cell (Yb w _ Jo)).trans Jo
   replace Jp:=(HB.out.cell (Yb w _ Jp)).trans Jp
   have c9b0:decide ((k:Int)<(Za.length:Int))=true:=Yv q115
   go_wp2_with (first|((with_reducible refine gate_dst (N:=7) rfl ?_);refine Yz ?hg (N:=7) ?hd (cs:= #[.int .i64 0, .int .i64 0, .int .i64 0, .int .i64 0]) (t:=74) ?hr ?_;(case hd=>rfl);(case hg=>rfl);(case hr=>first|(go_simp;done)|(go_simp;rfl));intro Wc hg w16 Zf hb;have n0_:=Ya (Kd.S_below (by(with_reducible repeat(first|apply Kd.S_alloc|apply Kd.S_drewN|apply Kd.S_drew));exact HO_3.out) hb);have n1_:=Ya (Yn (g:=Xu) (o:=(.cells #[.int .i64 Zc, .bool Zb, .slice (some Jv) Za.length Zd] 24 (0,0))) (by(with_reducible repeat(first|refine Yl ?_ _|refine Ym ?_|refine Yj ?_ _));exact Zm.out) hb);have n2_:=Ya (Yk (by repeat(first|(with_reducible first|exact HB.out|apply Ye|apply Yd|apply Yg|refine Yh ?_ Vx.out)|exact HB.out)) hb);have n3_:=Ya (Zf);have n5_:=Ya ((by rw[hg];exact(Yi (by repeat(first|(with_reducible first|exact HB.out|apply Ye|apply Yd|apply Yg|refine Yh ?_ Vx.out)|exact HB.out))):w.heap.size≤Wc));have n6_:=Ya ((by rw[hg];exact Nat.ne_of_lt (blk_lt (g:=Xu) (o:=(.cells #[.int .i64 Zc, .bool Zb, .slice (some Jv) Za.length Zd] 24 (0,0))) (by(with_reducible repeat(first|refine Yl ?_ _|refine Ym ?_|refine Yj ?_ _));exact Zm.out)):Xu≠Wc));have n7_:=Ya ((by rw[hg];exact Nat.ne_of_gt (blk_lt (g:=Xu) (o:=(.cells #[.int .i64 Zc, .bool Zb, .slice (some Jv) Za.length Zd] 24 (0,0))) (by(with_reducible repeat(first|refine Yl ?_ _|refine Ym ?_|refine Yj ?_ _));exact Zm.out)):Wc≠Xu));clear HO_3;clear Zm;clear HB;have HO_3:=n0_;have Zm:=n1_;have HB:=n2_;have Xx:=n3_;have GE116:=n5_;have Vg:=n6_;have NB116_111:=n7_;clear n0_ n1_ n2_ n3_ n5_ n6_ n7_;clear hb Zf hg;have hnb17:=NB116_111.out;have hnc17:=Vg.out;have hcz18_0:w16.cell? ⟨Wc,0,none⟩=some (.int .i64 0):=(Yc Xx.out 0).trans rfl;have hcz18_1:w16.cell? ⟨Wc,1,none⟩=some (.int .i64 0):=(Yc Xx.out 1).trans rfl;have hcz18_2:w16.cell? ⟨Wc,2,none⟩=some (.int .i64 0):=(Yc Xx.out 2).trans rfl;have hcz18_3:w16.cell? ⟨Wc,3,none⟩=some (.int .i64 0):=(Yc Xx.out 3).trans rfl;have hfz18_0:=Yf Xx.out 0;have hfz18_1:=Yf Xx.out 1;have hfz18_2:=Yf Xx.out 2;have hfz18_3:=Yf Xx.out 3)|((with_reducible refine gate_store (t:=74) (p:=7) rfl ?_);refine store_event (t:=74) (p:=7) (v:= ?vo_w19) (w1:=((((w16.setCell ⟨Wc,0,none⟩ (.int .i64 (rd_T74 Za (k:Int)).f0)).setCell ⟨Wc,1,none⟩ (.int .i64 (rd_T74 Za (k:Int)).f1)).setCell ⟨Wc,2,none⟩ (.int .i64 (rd_T74 Za (k:Int)).f2)).setCell ⟨Wc,3,none⟩ (.int .i64 (rd_T74 Za (k:Int)).f3))) ?hg ?ho ?hn ?hr ?_;(case ho=>rfl);(case hg=>rfl);(case hn=>rfl);(case hr=>first|(go_simp;done)|(go_simp;rfl));intro w19 hw;have n0_:Aside0 (Kd.S (Kd.slice 3 (Kd.int .i64)) 25 w19 w.heap.size (fun _=>True) v113 (lsAt eFrom Za Zc.toNat k)):=⟨(by rw[hw];exact(by(with_reducible repeat(first|apply Kd.S_alloc|apply Kd.S_drewN|apply Kd.S_drew));exact Kd.S_mono (Kd.S_far (p:=⟨Wc,3,none⟩) (Kd.S_far (p:=⟨Wc,2,none⟩) (Kd.S_far (p:=⟨Wc,1,none⟩) (Kd.S_far (p:=⟨Wc,0,none⟩) (Kd.S_types HO_3.out Xx.out (by decide)) (fun _ hk=>hk.2) (.int .i64 (rd_T74 Za (k:Int)).f0)) (fun _ hk=>hk.2) (.int .i64 (rd_T74 Za (k:Int)).f1)) (fun _ hk=>hk.2) (.int .i64 (rd_T74 Za (k:Int)).f2)) (fun _ hk=>hk.2) (.int .i64 (rd_T74 Za (k:Int)).f3)) (fun _ hk=>trivial)))⟩;have n1_:Aside0 (w19.heap[Xu]? =some (.cells #[.int .i64 Zc, .bool Zb, .slice (some Jv) Za.length Zd] 24 (0,0))):=⟨(by rw[hw];exact(by(with_reducible repeat(first|refine Yl ?_ _|refine Ym ?_|refine Yj ?_ _));refine blk_far ?_ Vg.out _;(with_reducible repeat(first|refine Yl ?_ _|refine Ym ?_|refine Yj ?_ _));refine blk_far ?_ Vg.out _;(with_reducible repeat(first|refine Yl ?_ _|refine Ym ?_|refine Yj ?_ _));refine blk_far ?_ Vg.out _;(with_reducible repeat(first|refine Yl ?_ _|refine Ym ?_|refine Yj ?_ _));refine blk_far ?_ Vg.out _;(with_reducible repeat(first|refine Yl ?_ _|refine Ym ?_|refine Yj ?_ _));exact Zm.out))⟩;have n2_:Aside0 (w19.heap[Wc]? =some (.cells #[.int .i64 (rd_T74 Za (k:Int)).f0, .int .i64 (rd_T74 Za (k:Int)).f1, .int .i64 (rd_T74 Za (k:Int)).f2, .int .i64 (rd_T74 Za (k:Int)).f3] 74 (0,0))):=⟨(by rw[hw];exact(by(with_reducible repeat(first|refine Yl ?_ _|refine Ym ?_|refine Yj ?_ _));refine YA (cs:= #[.int .i64 (rd_T74 Za (k:Int)).f0, .int .i64 (rd_T74 Za (k:Int)).f1, .int .i64 (rd_T74 Za (k:Int)).f2, .int .i64 0]) ?_ 3 _ rfl;(with_reducible repeat(first|refine Yl ?_ _|refine Ym ?_|refine Yj ?_ _));refine YA (cs:= #[.int .i64 (rd_T74 Za (k:Int)).f0, .int .i64 (rd_T74 Za (k:Int)).f1, .int .i64 0, .int .i64 0]) ?_ 2 _ rfl;(with_reducible repeat(first|refine Yl ?_ _|refine Ym ?_|refine Yj ?_ _));refine YA (cs:= #[.int .i64 (rd_T74 Za (k:Int)).f0, .int .i64 0, .int .i64 0, .int .i64 0]) ?_ 1 _ rfl;(with_reducible repeat(first|refine Yl ?_ _|refine Ym ?_|refine Yj ?_ _));refine YA (cs:= #[.int .i64 0, .int .i64 0, .int .i64 0, .int .i64 0]) ?_ 0 _ rfl;(with_reducible repeat(first|refine Yl ?_ _|refine Ym ?_|refine Yj ?_ _));exact Xx.out))⟩;have n3_:Aside0 (Below w.heap.size w w19):=⟨(by rw[hw];exact(by repeat(first|(with_reducible first|exact HB.out|apply Ye|apply Yd|apply Yg|refine Yh ?_ Vx.out|refine Yh ?_ GE116.out)|exact HB.out)))⟩;clear hw;clear HO_3;clear Zm;clear Xx;clear HB;have HO_3:=n0_;have Zm:=n1_;have Xx:=n2_;have HB:=n3_;clear n0_ n1_ n2_ n3_;have hcz20_0:w19.cell? ⟨Wc,0,none⟩=some (.int .i64 (rd_T74 Za (k:Int)).f0):=(Yc Xx.out 0).trans rfl;have hcz20_1:w19.cell? ⟨Wc,1,none⟩=some (.int .i64 (rd_T74 Za (k:Int)).f1):=(Yc Xx.out 1).trans rfl;have hcz20_2:w19.cell? ⟨Wc,2,none⟩=some (.int .i64 (rd_T74 Za (k:Int)).f2):=(Yc Xx.out 2).trans rfl;have hcz20_3:w19.cell? ⟨Wc,3,none⟩=some (.int .i64 (rd_T74 Za (k:Int)).f3):=(Yc Xx.out 3).trans rfl;have hfz20_0:=Yf Xx.out 0;have hfz20_1:=Yf Xx.out 1;have hfz20_2:=Yf Xx.out 2;have hfz20_3:=Yf Xx.out 3)|(go_at_call 160;refine(adj_from.calls (rd_T74 Za (k:Int)).f0 (rd_T74 Za (k:Int)).f1 (rd_T74 Za (k:Int)).f2 (rd_T74 Za (k:Int)).f3 _ _ rfl).mono ?_;rintro e_ w20 ⟨rfl,hb⟩;rw[show (rd_T74 Za (k:Int)).f0=ex from hex.out];have n0_:=Ya (Kd.S_below (by(with_reducible repeat(first|apply Kd.S_alloc|apply Kd.S_drewN|apply Kd.S_drew));exact HO_3.out) hb);have n1_:=Ya (Yn (g:=Xu) (o:=(.cells #[.int .i64 Zc, .bool Zb, .slice (some Jv) Za.length Zd] 24 (0,0))) (by(with_reducible repeat(first|refine Yl ?_ _|refine Ym ?_|refine Yj ?_ _));exact Zm.out) hb);have n2_:=Ya (Yk (by repeat(first|(with_reducible first|exact HB.out|apply Ye|apply Yd|apply Yg|refine Yh ?_ Vx.out|refine Yh ?_ GE116.out)|exact HB.out)) hb);clear HO_3 Zm HB Xx hcz20_0 hcz20_1 hcz20_2 hcz20_3 hfz20_0 hfz20_1 hfz20_2 hfz20_3 hb;have HO_3:=n0_;have Zm:=n1_;have HB:=n2_;clear n0_ n1_ n2_;obtain⟨Ao21,co21,eo21⟩:=Kd.S_slice HO_3.out;subst eo21;have p117:0≤(ex:Int):=(Yu (by first|(with_reducible assumption)|assumption));have q117:ex<((lsAt eFrom Za Zc.toNat k).length:Int):=(Yu (by first|(with_reducible assumption)|assumption));obtain⟨ad117,A117_0,c117_0,e117,hx117_0,hl117_0,hi117_0⟩:=at_L7 (Kd.S_reads' HO_3.out).2.2 ex p117 q117;cases e117;obtain⟨ce117,hce117,hMe117,hcc117⟩:=Kd.S_get HO_3.out [] ex p117 (by first|exact q117|(have e_:=(Kd.S_reads' HO_3.out).1;omega));obtain⟨ve117_0,rfl,ge117_0⟩:=hMe117;have hv117_0:=hcc117 0 _ rfl;rw[Nat.add_zero,show ((Kd.slice 3 (Kd.int .i64))).sz=1 from rfl,Nat.mul_one] at hv117_0;replace hv117_0:=Option.some.inj (hv117_0.symm.trans hx117_0);rw[hv117_0] at ge117_0;have HL117_0:=Ya (show Kd.R (Kd.int .i64) 3 _ _ _ _ (rd_L7 (lsAt eFrom Za Zc.toNat k) ex) from ge117_0);clear hv117_0 ge117_0;have HX117_0:=Ya hx117_0;clear hcc117 hce117;have HR117_0:=Ya hi117_0;have HC117_0:=Ya hl117_0;clear hi117_0 hl117_0;replace p117:=eq_true p117;replace q117:=eq_true q117;obtain⟨go22,co22,eo22,gb22,gl22,cl22,HG22⟩:=Kd.S_form HO_3.out (by have h_:(ex:Int)<((lsAt eFrom Za Zc.toNat k).length:Int):=(Yu (by first|(with_reducible assumption)|assumption));have h2_:0≤(ex:Int):=(Yu (by first|(with_reducible assumption)|assumption));omega);(first|cases eo22|(injection eo22 with ea_ en_ ec_;(first|subst ea_|(injection ea_ with ea_;subst ea_));subst ec_;clear en_));have GB22:=Ya gb22;have GG22:=Ya HG22;clear gb22 gl22 HG22;(first|simp only[add_plain] at hx117_0|skip);obtain⟨oki22,ce22,hcl22,hM22,hcc22,_,_,hH22⟩:=Kd.S_elem HO_3.out [] (ex:Int) (Yu (by first|(with_reducible assumption)|assumption)) (by have h_:(ex:Int)<((lsAt eFrom Za Zc.toNat k).length:Int):=Yu (by first|(with_reducible assumption)|assumption);first|exact h_|(have e_:=(Kd.S_reads' HO_3.out).1;omega)|simpa using h_);obtain⟨ve22_0,rfl,ge22_0⟩:=hM22;have hv22:=hcc22 0 _ rfl;have hX22:=HX117_0.out;(try simp only[add_plain] at hX22);(try simp only[Nat.add_zero] at hv22);(try rw[show ((Kd.slice 3 (Kd.int .i64))).sz=1 from rfl,Nat.mul_one] at hv22);replace hv22:=Option.some.inj (hv22.symm.trans hX22);subst hv22;clear hX22 hcc22 hcl22;have UU22:=Ya (show Kd.R (Kd.int .i64) 3 _ w.heap.size oki22 (.slice A117_0 (rd_L7 (lsAt eFrom Za Zc.toNat k) ex).length c117_0) (rd_L7 (lsAt eFrom Za Zc.toNat k) ex) from ge22_0);have HH22:=Ya hH22;have HN22:=Ya (Kd.S_reads' HO_3.out).1;clear hH22 ge22_0)|((with_reducible refine gate_builtin (b:= .append) (xs:= #[.tmp 28, .tmp 30]) rfl ?_);at_builtin;refine Kd.R_append (Kd.int .i64) (w0:=w) w.heap.size rfl (.tmp 28) (.tmp 30) 25 3 (.int .i64 0) 8 rfl Try.underlying25 info3 rfl (by decide) (by omega) (.slice A117_0 (rd_L7 (lsAt eFrom Za Zc.toNat k) ex).length c117_0) (rd_L7 (lsAt eFrom Za Zc.toNat k) ex) (k:Int) [.int .i64 (k:Int)] (fun k_=>oki22 k_∨((fun _=>True)) k_∧w20.heap.size≤k_) (fun _=>False) rfl rfl ?aP (fun _ hk=>hk.elim) ?aF ?aO ?aB ?aS ?aL ?_;(case aP=>exact rfl);(case aB=>exact(by repeat(first|(with_reducible first|exact HB.out|apply Ye|apply Yd|apply Yg|refine Yh ?_ Vx.out)|exact HB.out)));(case aF=>exact(fun k_ hk=> .inr ⟨trivial,hk⟩));(case aO=>exact(by(with_reducible repeat(first|apply Yr|apply Yq|apply Yp));exact Kd.R_mono UU22.out (fun _ hk=> .inl hk)));(case aS=>exact(Yi (by repeat(first|(with_reducible first|exact HB.out|apply Ye|apply Yd|apply Yg|refine Yh ?_ Vx.out)|exact HB.out))));(case aL=>have:=LMc14.out;omega);intro v119 w23 ho hb hg hat;have n0_:=Ya (blk_grown (g:=Xu) (o:=(.cells #[.int .i64 Zc, .bool Zb, .slice (some Jv) Za.length Zd] 24 (0,0))) (by(with_reducible repeat(first|refine Yl ?_ _|refine Ym ?_|refine Yj ?_ _));exact Zm.out) hg (Kd.R_ne HL117_0.out Zm.out (by decide)));have n2_:=Ya (hb);have n3_:=Ya (Kd.H_grown (Kd.H_widen (by repeat(first|exact HH22.out|refine Kd.H_alloc ?_ _|refine Kd.H_drewN ?_ _|refine Kd.H_drew ?_))) hg (fun k_ e_=> .inl (UU22.out.1 k_ e_)));have n4_:=Ya (ho);clear Zm;clear HB;clear HH22;clear HO_3;clear UU22;clear HL117_0;have Zm:=n0_;have HB:=n2_;have HH22:=n3_;have HO120:=n4_;clear n0_ n2_ n3_ n4_;clear ho hb hg hat;have p15:0≤(ex:Int):=(Yu (by first|(with_reducible assumption)|assumption));have q15:(ex:Int)<((lsAt eFrom Za Zc.toNat k).length:Int):=(Yu (by first|(with_reducible assumption)|assumption));replace p15:=eq_true p15;replace q15:=eq_true q15;obtain⟨Ao26,co26,eo26⟩:=Kd.R_slice HO120.out;subst eo26;obtain⟨_,_,hraw24,_,_,hcc24,_⟩:=Kd.H_raw HH22.out (Yu (by first|(with_reducible assumption)|assumption)) (by have h_:(ex:Int)<((lsAt eFrom Za Zc.toNat k).length:Int):=Yu (by first|(with_reducible assumption)|assumption);first|exact h_|(have e_:=(HN22.out);omega)|simpa using h_);obtain⟨_,hfr24⟩:=Kd.H_at HH22.out (Yu (by first|(with_reducible assumption)|assumption)) (by have h_:(ex:Int)<((lsAt eFrom Za Zc.toNat k).length:Int):=Yu (by first|(with_reducible assumption)|assumption);first|exact h_|(have e_:=(HN22.out);omega)|simpa using h_);have hx24_0:=hcc24 0 _ rfl;have hf24_0:=hfr24 0;(try simp only[Nat.add_zero] at hx24_0 hf24_0);(try rw[show ((Kd.slice 3 (Kd.int .i64))).sz=1 from rfl,Nat.mul_one] at hx24_0);(try rw[show ((Kd.slice 3 (Kd.int .i64))).sz=1 from rfl,Nat.mul_one] at hf24_0);have HP24:=Kd.S_seg0 HH22.out (Yu (by first|(with_reducible assumption)|assumption)) (by have h_:(ex:Int)<((lsAt eFrom Za Zc.toNat k).length:Int):=Yu (by first|(with_reducible assumption)|assumption);first|exact h_|(have e_:=(HN22.out);omega)|simpa using h_) (seg:=[.slice Ao26 (rd_L7 (lsAt eFrom Za Zc.toNat k) ex ++ [(k:Int)]).length co26]) (j:=0) (show 1≤1 from by decide) (x':=rd_L7 (lsAt eFrom Za Zc.toNat k) ex ++ [(k:Int)]) (Kd.M_row HO120.out) (fun _ hk=>hk);(try simp only[show ((Kd.slice 3 (Kd.int .i64))).sz=1 from rfl,Nat.mul_one,Nat.add_zero] at HP24);clear hcc24 hfr24)|((with_reducible refine gate_store (t:=25) (p:=32) rfl ?_);refine store_event (t:=25) (p:=32) (v:= ?vo_w25) (w1:=(w23.setCell ⟨go22,(ex:Int).toNat,none⟩ (.slice Ao26 (rd_L7 (lsAt eFrom Za Zc.toNat k) ex ++ [(k:Int)]).length co26))) ?hg ?ho ?hn ?hr ?_;(case ho=>rfl);(case hg=>rfl);(case hn=>rfl);(case hr=>first|(go_simp;done)|(go_simp;rfl));intro w25 hw;have hg:w23.grownBy w25 (some go22):=(by rw[hw];exact HP24.2);have hp_:Kd.S (Kd.slice 3 (Kd.int .i64)) 25 w25 w.heap.size (fun _=>True) (.slice (some ⟨go22,0,none⟩) (lsAt eFrom Za Zc.toNat k).length co21) (lsAt eFrom Za Zc.toNat (k+1)):=(by rw[hw,LSN.out];exact HP24.1);clear HP24;have n0_:=Ya (blk_grown (g:=Xu) (o:=(.cells #[.int .i64 Zc, .bool Zb, .slice (some Jv) Za.length Zd] 24 (0,0))) (by(with_reducible repeat(first|refine Yl ?_ _|refine Ym ?_|refine Yj ?_ _));exact Zm.out) hg (Kd.R_ne hraw24 Zm.out (by decide)));have n2_:=Ya ((by rw[hw];exact Yh HB.out GB22.out:Below w.heap.size w w25));have n3_:=Ya (hp_);clear Zm;clear HB;clear HO120;clear HH22;have Zm:=n0_;have HB:=n2_;have HO_3:=n3_;clear n0_ n2_ n3_;clear hg hw hp_ hraw24))
   go_roundw
   case rel=>exact⟨k+1,by omega,by first|rfl|go_num,⟨by(with_reducible repeat(first|apply Kd.S_alloc|apply Kd.S_drewN|apply Kd.S_drew));exact HO_3.out⟩,⟨by(with_reducible repeat(first|refine Yl ?_ _|refine Ym ?_|refine Yj ?_ _));exact Zm.out⟩,⟨(by repeat(first|(with_reducible first|exact HB.out|apply Ye|apply Yd|apply Yg|refine Yh ?_ Vx.out)|exact HB.out))⟩⟩
   case measure=>simp[intOf]<;>omega
  ·have ek:k=Za.length:=by omega
   subst ek
   have c9b0:decide ((Za.length:Int)<(Za.length:Int))=false:=Yw (by omega)
   go_wp2
   go_ret
   exact⟨_,rfl,by(with_reducible repeat(first|apply Kd.S_alloc|apply Kd.S_drewN|apply Kd.S_drew));exact HO_3.out,(by repeat(first|(with_reducible first|exact HB.out|apply Ye|apply Yd|apply Yg|refine Yh ?_ Vx.out)|exact HB.out))⟩
set_option maxHeartbeats 4000000 in
set_option maxRecDepth 100000 in
theorem listsTo_calls (Zc:Int) (Zb:Bool) (Ze:Option Addr) (Zd:Nat) (Za:List S74) (w:World) (Zq:Kd.C k74 w Ze Za.length Za) (Zr:Za.length≤Zd) (h0:0≤Zc) (h1:Zc≤1000000) (hl:Za.length≤1000000) (hE: ∀ k:Nat,k<Za.length→0≤eTo (rd_T74 Za k)∧eTo (rd_T74 Za k)<Zc):
  Calls Try.prog 159 #[.agg #[.int .i64 Zc, .bool Zb, .slice Ze Za.length Zd], .func (.func 161) #[] #[]] w fun e w'=> ∃ v0_:Value,e= .returned v0_∧Kd.S (Kd.slice 3 (Kd.int .i64)) 25 w' w.heap.size (fun _=>True) v0_ (lsAt eTo Za Zc.toNat Za.length)∧Below w.heap.size w w':=by
 have hu24:=Try.underlying24
 have hu74:=Try.underlying74
 have Zl:=Ya Zq
 have Xd:=Ya Zr
 have HE:=Ya hE
 clear Zq Zr hE
 have HB:=Ya (Yo w.heap.size w)
 have c2b1:decide (0≤Zc)=true:=Yv h0
 have c3b1:decide ((Zc:Int).toNat≤11728124029610)=true:=Yv (by omega)
 have c2b0:=eq_true h0
 have c3b0:((Zc:Int).toNat≤11728124029610)=True:=eq_true (by omega)
 have HH0:=Ya h0
 have HH1:=Ya h1
 clear h0 h1
 go_enter Try.func159,Try.ntmps159
 go_wp2_with (first|((with_reducible refine gate_dst (N:=2) rfl ?_);refine Yz ?hg (N:=2) ?hd (cs:= #[.int .i64 Zc, .bool Zb, .slice Ze Za.length Zd]) (t:=24) ?hr ?_;(case hd=>rfl);(case hg=>rfl);(case hr=>first|(go_simp;done)|(go_simp;rfl));intro Xu hg w4 Zf hb;have n0_:=Ya (Yk (by repeat(first|(with_reducible first|exact HB.out|apply Ye|apply Yd|apply Yg)|exact HB.out)) hb);have n1_:=Ya (Zf);have n3_:=Ya ((by rw[hg];exact(Yi (by repeat(first|(with_reducible first|exact HB.out|apply Ye|apply Yd|apply Yg)|exact HB.out))):w.heap.size≤Xu));clear HB;have HB:=n0_;have Zm:=n1_;have Vx:=n3_;clear n0_ n1_ n3_;clear hb Zf hg;have hcz5_0:w4.cell? ⟨Xu,0,none⟩=some (.int .i64 Zc):=(Yc Zm.out 0).trans rfl;have hcz5_1:w4.cell? ⟨Xu,1,none⟩=some (.bool Zb):=(Yc Zm.out 1).trans rfl;have hcz5_2:w4.cell? ⟨Xu,2,none⟩=some (.slice Ze Za.length Zd):=(Yc Zm.out 2).trans rfl;have hfz5_0:=Yf Zm.out 0;have hfz5_1:=Yf Zm.out 1;have hfz5_2:=Yf Zm.out 2)|((with_reducible refine gate_dst (N:=11) rfl ?_);refine Kd.S_make (Kd.slice 3 (Kd.int .i64)) _ 25 rfl (N:=11) rfl 154 _ _ rfl Zc rfl rfl Try.underlying154 (.slice none 0 0) 24 infoRow rfl (by decide) (by omega) [] (ok:=fun _=>True) (okp:=fun _=>True) ⟨_,rfl,Kd.R_nil _ _ _ _ _⟩ (fun _ hk=>hk) trivial (Yu (by first|(with_reducible assumption)|assumption)) (Nat.le_trans (Nat.mul_le_mul_right _ (Yu (by first|(with_reducible assumption)|assumption):Zc.toNat≤11728124029610)) (by omega)) (Yo _ _) (Nat.le_refl _) ?_;intro v113 w6 ho7 hb hg_ hnew_;clear hg_ hnew_;have n0_:=Ya (Kd.S_lower ho7 (Yi (by repeat(first|(with_reducible first|exact HB.out|apply Ye|apply Yd|apply Yg|refine Yh ?_ Vx.out)|exact HB.out))));have n1_:=Ya (Yn (g:=Xu) (o:= .cells #[.int .i64 Zc, .bool Zb, .slice Ze Za.length Zd] 24 (0,0)) (by(with_reducible repeat(first|refine Yl ?_ _|refine Ym ?_|refine Yj ?_ _));exact Zm.out) hb);have n2_:=Ya (Yk (by repeat(first|(with_reducible first|exact HB.out|apply Ye|apply Yd|apply Yg|refine Yh ?_ Vx.out)|exact HB.out)) hb);clear Zm;clear HB;have HO114:=n0_;have Zm:=n1_;have HB:=n2_;clear n0_ n1_ n2_;clear hb ho7;have hcz8_0:w6.cell? ⟨Xu,0,none⟩=some (.int .i64 Zc):=(Yc Zm.out 0).trans rfl;have hcz8_1:w6.cell? ⟨Xu,1,none⟩=some (.bool Zb):=(Yc Zm.out 1).trans rfl;have hcz8_2:w6.cell? ⟨Xu,2,none⟩=some (.slice Ze Za.length Zd):=(Yc Zm.out 2).trans rfl;have hfz8_0:=Yf Zm.out 0;have hfz8_1:=Yf Zm.out 1;have hfz8_2:=Yf Zm.out 2))
 go_loopw [15] (fun v15 w'=> ∃ k:Nat,k≤Za.length∧v15= .int .i64 k∧Aside0 (Kd.S (Kd.slice 3 (Kd.int .i64)) 25 w' w.heap.size (fun _=>True) v113 (lsAt eTo Za Zc.toNat k))∧Aside0 (w'.heap[Xu]? =some (.cells #[.int .i64 Zc, .bool Zb,(.slice Ze Za.length Zd)] 24 (0,0)))∧Aside0 (Below w.heap.size w w')) (fun v15 _=>Za.length - (intOf v15).toNat)
 case atStart=>exact⟨0,Nat.zero_le _,rfl,⟨by(with_reducible repeat(first|apply Kd.S_alloc|apply Kd.S_drewN|apply Kd.S_drew));exact HO114.out⟩,⟨by(with_reducible repeat(first|refine Yl ?_ _|refine Ym ?_|refine Yj ?_ _));exact Zm.out⟩,⟨(by repeat(first|(with_reducible first|exact HB.out|apply Ye|apply Yd|apply Yg|refine Yh ?_ Vx.out)|exact HB.out))⟩⟩
 case round=>
  try clear c2b0
  try clear c2b1
  try clear c3b0
  try clear c3b1
  try clear hcz5_0 hcz5_1 hcz5_2 hcz8_0 hcz8_1 hcz8_2 hfz5_0 hfz5_1 hfz5_2 hfz8_0 hfz8_1 hfz8_2
  clear HO114 Zm HB
  obtain⟨k,hk,rfl,HO_3,Zm,HB⟩:=hrel
  by_cases hlt:k<Za.length
  ·have hEk:=HE.out k hlt
   obtain⟨ex,hex0⟩: ∃ ex,eTo (rd_T74 Za (k:Int))=ex:=⟨_,rfl⟩
   have hex:=Ya hex0
   have LSN:Aside0 (lsAt eTo Za Zc.toNat (k+1)=(lsAt eTo Za Zc.toNat k).set (ex:Int).toNat (rd_L7 (lsAt eTo Za Zc.toNat k) ex ++ [(k:Int)])):=⟨by rw[← hex0];rfl⟩
   rw[hex0] at hEk
   clear hex0
   have hlen:=lsAt_len eTo Za Zc.toNat k
   have c12b0:decide (0≤ex)=true:=Yv hEk.1
   have c13b0:decide (ex<((lsAt eTo Za Zc.toNat k).length:Int))=true:=Yv (by rw[hlen];have:=HH0.out;omega)
   have LMc14:Aside0 ((rd_L7 (lsAt eTo Za Zc.toNat k) ex).length<17592186044416):=⟨by have:=lsAt_row eTo Za Zc.toNat k ex;omega⟩
   clear hEk hlen
   have p115:0≤((k:Nat):Int):=by omega
   have q115:((k:Nat):Int)<(Za.length:Int):=by omega
   obtain⟨Jv,e115,Jm,Jn,Jo,Jp⟩:=at_T74 Zl.out (k:Int) p115 q115
   simp only[Int.toNat_natCast] at Jm Jn Jo Jp
   cases e115
   replace Jm:=(HB.out.cell (Yb w _ Jm)).trans Jm
   replace Jn:=(HB.out.cell (Yb w _ Jn)).trans Jn
   replace Jo:=(HB.out.cell (Yb w _ Jo)).trans Jo
   replace Jp:=(HB.out.cell (Yb w _ Jp)).trans Jp
   have c9b0:decide ((k:Int)<(Za.length:Int))=true:=Yv q115
   go_wp2_with (first|((with_reducible refine gate_dst (N:=7) rfl ?_);refine Yz ?hg (N:=7) ?hd (cs:= #[.int .i64 0, .int .i64 0, .int .i64 0, .int .i64 0]) (t:=74) ?hr ?_;(case hd=>rfl);(case hg=>rfl);(case hr=>first|(go_simp;done)|(go_simp;rfl));intro Wc hg w16 Zf hb;have n0_:=Ya (Kd.S_below (by(with_reducible repeat(first|apply Kd.S_alloc|apply Kd.S_drewN|apply Kd.S_drew));exact HO_3.out) hb);have n1_:=Ya (Yn (g:=Xu) (o:=(.cells #[.int .i64 Zc, .bool Zb, .slice (some Jv) Za.length Zd] 24 (0,0))) (by(with_reducible repeat(first|refine Yl ?_ _|refine Ym ?_|refine Yj ?_ _));exact Zm.out) hb);have n2_:=Ya (Yk (by repeat(first|(with_reducible first|exact HB.out|apply Ye|apply Yd|apply Yg|refine Yh ?_ Vx.out)|exact HB.out)) hb);have n3_:=Ya (Zf);have n5_:=Ya ((by rw[hg];exact(Yi (by repeat(first|(with_reducible first|exact HB.out|apply Ye|apply Yd|apply Yg|refine Yh ?_ Vx.out)|exact HB.out))):w.heap.size≤Wc));have n6_:=Ya ((by rw[hg];exact Nat.ne_of_lt (blk_lt (g:=Xu) (o:=(.cells #[.int .i64 Zc, .bool Zb, .slice (some Jv) Za.length Zd] 24 (0,0))) (by(with_reducible repeat(first|refine Yl ?_ _|refine Ym ?_|refine Yj ?_ _));exact Zm.out)):Xu≠Wc));have n7_:=Ya ((by rw[hg];exact Nat.ne_of_gt (blk_lt (g:=Xu) (o:=(.cells #[.int .i64 Zc, .bool Zb, .slice (some Jv) Za.length Zd] 24 (0,0))) (by(with_reducible repeat(first|refine Yl ?_ _|refine Ym ?_|refine Yj ?_ _));exact Zm.out)):Wc≠Xu));clear HO_3;clear Zm;clear HB;have HO_3:=n0_;have Zm:=n1_;have HB:=n2_;have Xx:=n3_;have GE116:=n5_;have Vg:=n6_;have NB116_111:=n7_;clear n0_ n1_ n2_ n3_ n5_ n6_ n7_;clear hb Zf hg;have hnb17:=NB116_111.out;have hnc17:=Vg.out;have hcz18_0:w16.cell? ⟨Wc,0,none⟩=some (.int .i64 0):=(Yc Xx.out 0).trans rfl;have hcz18_1:w16.cell? ⟨Wc,1,none⟩=some (.int .i64 0):=(Yc Xx.out 1).trans rfl;have hcz18_2:w16.cell? ⟨Wc,2,none⟩=some (.int .i64 0):=(Yc Xx.out 2).trans rfl;have hcz18_3:w16.cell? ⟨Wc,3,none⟩=some (.int .i64 0):=(Yc Xx.out 3).trans rfl;have hfz18_0:=Yf Xx.out 0;have hfz18_1:=Yf Xx.out 1;have hfz18_2:=Yf Xx.out 2;have hfz18_3:=Yf Xx.out 3)|((with_reducible refine gate_store (t:=74) (p:=7) rfl ?_);refine store_event (t:=74) (p:=7) (v:= ?vo_w19) (w1:=((((w16.setCell ⟨Wc,0,none⟩ (.int .i64 (rd_T74 Za (k:Int)).f0)).setCell ⟨Wc,1,none⟩ (.int .i64 (rd_T74 Za (k:Int)).f1)).setCell ⟨Wc,2,none⟩ (.int .i64 (rd_T74 Za (k:Int)).f2)).setCell ⟨Wc,3,none⟩ (.int .i64 (rd_T74 Za (k:Int)).f3))) ?hg ?ho ?hn ?hr ?_;(case ho=>rfl);(case hg=>rfl);(case hn=>rfl);(case hr=>first|(go_simp;done)|(go_simp;rfl));intro w19 hw;have n0_:Aside0 (Kd.S (Kd.slice 3 (Kd.int .i64)) 25 w19 w.heap.size (fun _=>True) v113 (lsAt eTo Za Zc.toNat k)):=⟨(by rw[hw];exact(by(with_reducible repeat(first|apply Kd.S_alloc|apply Kd.S_drewN|apply Kd.S_drew));exact Kd.S_mono (Kd.S_far (p:=⟨Wc,3,none⟩) (Kd.S_far (p:=⟨Wc,2,none⟩) (Kd.S_far (p:=⟨Wc,1,none⟩) (Kd.S_far (p:=⟨Wc,0,none⟩) (Kd.S_types HO_3.out Xx.out (by decide)) (fun _ hk=>hk.2) (.int .i64 (rd_T74 Za (k:Int)).f0)) (fun _ hk=>hk.2) (.int .i64 (rd_T74 Za (k:Int)).f1)) (fun _ hk=>hk.2) (.int .i64 (rd_T74 Za (k:Int)).f2)) (fun _ hk=>hk.2) (.int .i64 (rd_T74 Za (k:Int)).f3)) (fun _ hk=>trivial)))⟩;have n1_:Aside0 (w19.heap[Xu]? =some (.cells #[.int .i64 Zc, .bool Zb, .slice (some Jv) Za.length Zd] 24 (0,0))):=⟨(by rw[hw];exact(by(with_reducible repeat(first|refine Yl ?_ _|refine Ym ?_|refine Yj ?_ _));refine blk_far ?_ Vg.out _;(with_reducible repeat(first|refine Yl ?_ _|refine Ym ?_|refine Yj ?_ _));refine blk_far ?_ Vg.out _;(with_reducible repeat(first|refine Yl ?_ _|refine Ym ?_|refine Yj ?_ _));refine blk_far ?_ Vg.out _;(with_reducible repeat(first|refine Yl ?_ _|refine Ym ?_|refine Yj ?_ _));refine blk_far ?_ Vg.out _;(with_reducible repeat(first|refine Yl ?_ _|refine Ym ?_|refine Yj ?_ _));exact Zm.out))⟩;have n2_:Aside0 (w19.heap[Wc]? =some (.cells #[.int .i64 (rd_T74 Za (k:Int)).f0, .int .i64 (rd_T74 Za (k:Int)).f1, .int .i64 (rd_T74 Za (k:Int)).f2, .int .i64 (rd_T74 Za (k:Int)).f3] 74 (0,0))):=⟨(by rw[hw];exact(by(with_reducible repeat(first|refine Yl ?_ _|refine Ym ?_|refine Yj ?_ _));refine YA (cs:= #[.int .i64 (rd_T74 Za (k:Int)).f0, .int .i64 (rd_T74 Za (k:Int)).f1, .int .i64 (rd_T74 Za (k:Int)).f2, .int .i64 0]) ?_ 3 _ rfl;(with_reducible repeat(first|refine Yl ?_ _|refine Ym ?_|refine Yj ?_ _));refine YA (cs:= #[.int .i64 (rd_T74 Za (k:Int)).f0, .int .i64 (rd_T74 Za (k:Int)).f1, .int .i64 0, .int .i64 0]) ?_ 2 _ rfl;(with_reducible repeat(first|refine Yl ?_ _|refine Ym ?_|refine Yj ?_ _));refine YA (cs:= #[.int .i64 (rd_T74 Za (k:Int)).f0, .int .i64 0, .int .i64 0, .int .i64 0]) ?_ 1 _ rfl;(with_reducible repeat(first|refine Yl ?_ _|refine Ym ?_|refine Yj ?_ _));refine YA (cs:= #[.int .i64 0, .int .i64 0, .int .i64 0, .int .i64 0]) ?_ 0 _ rfl;(with_reducible repeat(first|refine Yl ?_ _|refine Ym ?_|refine Yj ?_ _));exact Xx.out))⟩;have n3_:Aside0 (Below w.heap.size w w19):=⟨(by rw[hw];exact(by repeat(first|(with_reducible first|exact HB.out|apply Ye|apply Yd|apply Yg|refine Yh ?_ Vx.out|refine Yh ?_ GE116.out)|exact HB.out)))⟩;clear hw;clear HO_3;clear Zm;clear Xx;clear HB;have HO_3:=n0_;have Zm:=n1_;have Xx:=n2_;have HB:=n3_;clear n0_ n1_ n2_ n3_;have hcz20_0:w19.cell? ⟨Wc,0,none⟩=some (.int .i64 (rd_T74 Za (k:Int)).f0):=(Yc Xx.out 0).trans rfl;have hcz20_1:w19.cell? ⟨Wc,1,none⟩=some (.int .i64 (rd_T74 Za (k:Int)).f1):=(Yc Xx.out 1).trans rfl;have hcz20_2:w19.cell? ⟨Wc,2,none⟩=some (.int .i64 (rd_T74 Za (k:Int)).f2):=(Yc Xx.out 2).trans rfl;have hcz20_3:w19.cell? ⟨Wc,3,none⟩=some (.int .i64 (rd_T74 Za (k:Int)).f3):=(Yc Xx.out 3).trans rfl;have hfz20_0:=Yf Xx.out 0;have hfz20_1:=Yf Xx.out 1;have hfz20_2:=Yf Xx.out 2;have hfz20_3:=Yf Xx.out 3)|(go_at_call 161;refine(adj_to.calls (rd_T74 Za (k:Int)).f0 (rd_T74 Za (k:Int)).f1 (rd_T74 Za (k:Int)).f2 (rd_T74 Za (k:Int)).f3 _ _ rfl).mono ?_;rintro e_ w20 ⟨rfl,hb⟩;rw[show (rd_T74 Za (k:Int)).f1=ex from hex.out];have n0_:=Ya (Kd.S_below (by(with_reducible repeat(first|apply Kd.S_alloc|apply Kd.S_drewN|apply Kd.S_drew));exact HO_3.out) hb);have n1_:=Ya (Yn (g:=Xu) (o:=(.cells #[.int .i64 Zc, .bool Zb, .slice (some Jv) Za.length Zd] 24 (0,0))) (by(with_reducible repeat(first|refine Yl ?_ _|refine Ym ?_|refine Yj ?_ _));exact Zm.out) hb);have n2_:=Ya (Yk (by repeat(first|(with_reducible first|exact HB.out|apply Ye|apply Yd|apply Yg|refine Yh ?_ Vx.out|refine Yh ?_ GE116.out)|exact HB.out)) hb);clear HO_3 Zm HB Xx hcz20_0 hcz20_1 hcz20_2 hcz20_3 hfz20_0 hfz20_1 hfz20_2 hfz20_3 hb;have HO_3:=n0_;have Zm:=n1_;have HB:=n2_;clear n0_ n1_ n2_;obtain⟨Ao21,co21,eo21⟩:=Kd.S_slice HO_3.out;subst eo21;have p117:0≤(ex:Int):=(Yu (by first|(with_reducible assumption)|assumption));have q117:ex<((lsAt eTo Za Zc.toNat k).length:Int):=(Yu (by first|(with_reducible assumption)|assumption));obtain⟨ad117,A117_0,c117_0,e117,hx117_0,hl117_0,hi117_0⟩:=at_L7 (Kd.S_reads' HO_3.out).2.2 ex p117 q117;cases e117;obtain⟨ce117,hce117,hMe117,hcc117⟩:=Kd.S_get HO_3.out [] ex p117 (by first|exact q117|(have e_:=(Kd.S_reads' HO_3.out).1;omega));obtain⟨ve117_0,rfl,ge117_0⟩:=hMe117;have hv117_0:=hcc117 0 _ rfl;rw[Nat.add_zero,show ((Kd.slice 3 (Kd.int .i64))).sz=1 from rfl,Nat.mul_one] at hv117_0;replace hv117_0:=Option.some.inj (hv117_0.symm.trans hx117_0);rw[hv117_0] at ge117_0;have HL117_0:=Ya (show Kd.R (Kd.int .i64) 3 _ _ _ _ (rd_L7 (lsAt eTo Za Zc.toNat k) ex) from ge117_0);clear hv117_0 ge117_0;have HX117_0:=Ya hx117_0;clear hcc117 hce117;have HR117_0:=Ya hi117_0;have HC117_0:=Ya hl117_0;clear hi117_0 hl117_0;replace p117:=eq_true p117;replace q117:=eq_true q117;obtain⟨go22,co22,eo22,gb22,gl22,cl22,HG22⟩:=Kd.S_form HO_3.out (by have h_:(ex:Int)<((lsAt eTo Za Zc.toNat k).length:Int):=(Yu (by first|(with_reducible assumption)|assumption));have h2_:0≤(ex:Int):=(Yu (by first|(with_reducible assumption)|assumption));omega);(first|cases eo22|(injection eo22 with ea_ en_ ec_;(first|subst ea_|(injection ea_ with ea_;subst ea_));subst ec_;clear en_));have GB22:=Ya gb22;have GG22:=Ya HG22;clear gb22 gl22 HG22;(first|simp only[add_plain] at hx117_0|skip);obtain⟨oki22,ce22,hcl22,hM22,hcc22,_,_,hH22⟩:=Kd.S_elem HO_3.out [] (ex:Int) (Yu (by first|(with_reducible assumption)|assumption)) (by have h_:(ex:Int)<((lsAt eTo Za Zc.toNat k).length:Int):=Yu (by first|(with_reducible assumption)|assumption);first|exact h_|(have e_:=(Kd.S_reads' HO_3.out).1;omega)|simpa using h_);obtain⟨ve22_0,rfl,ge22_0⟩:=hM22;have hv22:=hcc22 0 _ rfl;have hX22:=HX117_0.out;(try simp only[add_plain] at hX22);(try simp only[Nat.add_zero] at hv22);(try rw[show ((Kd.slice 3 (Kd.int .i64))).sz=1 from rfl,Nat.mul_one] at hv22);replace hv22:=Option.some.inj (hv22.symm.trans hX22);subst hv22;clear hX22 hcc22 hcl22;have UU22:=Ya (show Kd.R (Kd.int .i64) 3 _ w.heap.size oki22 (.slice A117_0 (rd_L7 (lsAt eTo Za Zc.toNat k) ex).length c117_0) (rd_L7 (lsAt eTo Za Zc.toNat k) ex) from ge22_0);have HH22:=Ya hH22;have HN22:=Ya (Kd.S_reads' HO_3.out).1;clear hH22 ge22_0)|((with_reducible refine gate_builtin (b:= .append) (xs:= #[.tmp 28, .tmp 30]) rfl ?_);at_builtin;refine Kd.R_append (Kd.int .i64) (w0:=w) w.heap.size rfl (.tmp 28) (.tmp 30) 25 3 (.int .i64 0) 8 rfl Try.underlying25 info3 rfl (by decide) (by omega) (.slice A117_0 (rd_L7 (lsAt eTo Za Zc.toNat k) ex).length c117_0) (rd_L7 (lsAt eTo Za Zc.toNat k) ex) (k:Int) [.int .i64 (k:Int)] (fun k_=>oki22 k_∨((fun _=>True)) k_∧w20.heap.size≤k_) (fun _=>False) rfl rfl ?aP (fun _ hk=>hk.elim) ?aF ?aO ?aB ?aS ?aL ?_;(case aP=>exact rfl);(case aB=>exact(by repeat(first|(with_reducible first|exact HB.out|apply Ye|apply Yd|apply Yg|refine Yh ?_ Vx.out)|exact HB.out)));(case aF=>exact(fun k_ hk=> .inr ⟨trivial,hk⟩));(case aO=>exact(by(with_reducible repeat(first|apply Yr|apply Yq|apply Yp));exact Kd.R_mono UU22.out (fun _ hk=> .inl hk)));(case aS=>exact(Yi (by repeat(first|(with_reducible first|exact HB.out|apply Ye|apply Yd|apply Yg|refine Yh ?_ Vx.out)|exact HB.out))));(case aL=>have:=LMc14.out;omega);intro v119 w23 ho hb hg hat;have n0_:=Ya (blk_grown (g:=Xu) (o:=(.cells #[.int .i64 Zc, .bool Zb, .slice (some Jv) Za.length Zd] 24 (0,0))) (by(with_reducible repeat(first|refine Yl ?_ _|refine Ym ?_|refine Yj ?_ _));exact Zm.out) hg (Kd.R_ne HL117_0.out Zm.out (by decide)));have n2_:=Ya (hb);have n3_:=Ya (Kd.H_grown (Kd.H_widen (by repeat(first|exact HH22.out|refine Kd.H_alloc ?_ _|refine Kd.H_drewN ?_ _|refine Kd.H_drew ?_))) hg (fun k_ e_=> .inl (UU22.out.1 k_ e_)));have n4_:=Ya (ho);clear Zm;clear HB;clear HH22;clear HO_3;clear UU22;clear HL117_0;have Zm:=n0_;have HB:=n2_;have HH22:=n3_;have HO120:=n4_;clear n0_ n2_ n3_ n4_;clear ho hb hg hat;have p15:0≤(ex:Int):=(Yu (by first|(with_reducible assumption)|assumption));have q15:(ex:Int)<((lsAt eTo Za Zc.toNat k).length:Int):=(Yu (by first|(with_reducible assumption)|assumption));replace p15:=eq_true p15;replace q15:=eq_true q15;obtain⟨Ao26,co26,eo26⟩:=Kd.R_slice HO120.out;subst eo26;obtain⟨_,_,hraw24,_,_,hcc24,_⟩:=Kd.H_raw HH22.out (Yu (by first|(with_reducible assumption)|assumption)) (by have h_:(ex:Int)<((lsAt eTo Za Zc.toNat k).length:Int):=Yu (by first|(with_reducible assumption)|assumption);first|exact h_|(have e_:=(HN22.out);omega)|simpa using h_);obtain⟨_,hfr24⟩:=Kd.H_at HH22.out (Yu (by first|(with_reducible assumption)|assumption)) (by have h_:(ex:Int)<((lsAt eTo Za Zc.toNat k).length:Int):=Yu (by first|(with_reducible assumption)|assumption);first|exact h_|(have e_:=(HN22.out);omega)|simpa using h_);have hx24_0:=hcc24 0 _ rfl;have hf24_0:=hfr24 0;(try simp only[Nat.add_zero] at hx24_0 hf24_0);(try rw[show ((Kd.slice 3 (Kd.int .i64))).sz=1 from rfl,Nat.mul_one] at hx24_0);(try rw[show ((Kd.slice 3 (Kd.int .i64))).sz=1 from rfl,Nat.mul_one] at hf24_0);have HP24:=Kd.S_seg0 HH22.out (Yu (by first|(with_reducible assumption)|assumption)) (by have h_:(ex:Int)<((lsAt eTo Za Zc.toNat k).length:Int):=Yu (by first|(with_reducible assumption)|assumption);first|exact h_|(have e_:=(HN22.out);omega)|simpa using h_) (seg:=[.slice Ao26 (rd_L7 (lsAt eTo Za Zc.toNat k) ex ++ [(k:Int)]).length co26]) (j:=0) (show 1≤1 from by decide) (x':=rd_L7 (lsAt eTo Za Zc.toNat k) ex ++ [(k:Int)]) (Kd.M_row HO120.out) (fun _ hk=>hk);(try simp only[show ((Kd.slice 3 (Kd.int .i64))).sz=1 from rfl,Nat.mul_one,Nat.add_zero] at HP24);clear hcc24 hfr24)|((with_reducible refine gate_store (t:=25) (p:=32) rfl ?_);refine store_event (t:=25) (p:=32) (v:= ?vo_w25) (w1:=(w23.setCell ⟨go22,(ex:Int).toNat,none⟩ (.slice Ao26 (rd_L7 (lsAt eTo Za Zc.toNat k) ex ++ [(k:Int)]).length co26))) ?hg ?ho ?hn ?hr ?_;(case ho=>rfl);(case hg=>rfl);(case hn=>rfl);(case hr=>first|(go_simp;done)|(go_simp;rfl));intro w25 hw;have hg:w23.grownBy w25 (some go22):=(by rw[hw];exact HP24.2);have hp_:Kd.S (Kd.slice 3 (Kd.int .i64)) 25 w25 w.heap.size (fun _=>True) (.slice (some ⟨go22,0,none⟩) (lsAt eTo Za Zc.toNat k).length co21) (lsAt eTo Za Zc.toNat (k+1)):=(by rw[hw,LSN.out];exact HP24.1);clear HP24;have n0_:=Ya (blk_grown (g:=Xu) (o:=(.cells #[.int .i64 Zc, .bool Zb, .slice (some Jv) Za.length Zd] 24 (0,0))) (by(with_reducible repeat(first|refine Yl ?_ _|refine Ym ?_|refine Yj ?_ _));exact Zm.out) hg (Kd.R_ne hraw24 Zm.out (by decide)));have n2_:=Ya ((by rw[hw];exact Yh HB.out GB22.out:Below w.heap.size w w25));have n3_:=Ya (hp_);clear Zm;clear HB;clear HO120;clear HH22;have Zm:=n0_;have HB:=n2_;have HO_3:=n3_;clear n0_ n2_ n3_;clear hg hw hp_ hraw24))
   go_roundw
   case rel=>exact⟨k+1,by omega,by first|rfl|go_num,⟨by(with_reducible repeat(first|apply Kd.S_alloc|apply Kd.S_drewN|apply Kd.S_drew));exact HO_3.out⟩,⟨by(with_reducible repeat(first|refine Yl ?_ _|refine Ym ?_|refine Yj ?_ _));exact Zm.out⟩,⟨(by repeat(first|(with_reducible first|exact HB.out|apply Ye|apply Yd|apply Yg|refine Yh ?_ Vx.out)|exact HB.out))⟩⟩
   case measure=>simp[intOf]<;>omega
  ·have ek:k=Za.length:=by omega
   subst ek
   have c9b0:decide ((Za.length:Int)<(Za.length:Int))=false:=Yw (by omega)
   go_wp2
   go_ret
   exact⟨_,rfl,by(with_reducible repeat(first|apply Kd.S_alloc|apply Kd.S_drewN|apply Kd.S_drew));exact HO_3.out,(by repeat(first|(with_reducible first|exact HB.out|apply Ye|apply Yd|apply Yg|refine Yh ?_ Vx.out)|exact HB.out))⟩
set_option maxHeartbeats 1000000 in
set_option maxRecDepth 100000 in
theorem leaving_calls (Zc:Int) (Zb:Bool) (Ze:Option Addr) (Zd:Nat) (Za:List S74) (w:World) (Zq:Kd.C k74 w Ze Za.length Za) (Zr:Za.length≤Zd) (h0:0≤Zc) (h1:Zc≤1000000) (hl:Za.length≤1000000) (hE: ∀ k:Nat,k<Za.length→0≤eFrom (rd_T74 Za k)∧eFrom (rd_T74 Za k)<Zc):
  Calls Try.prog 141 #[.agg #[.int .i64 Zc, .bool Zb, .slice Ze Za.length Zd]] w fun e w'=> ∃ v0_:Value,e= .returned v0_∧Kd.S (Kd.slice 3 (Kd.int .i64)) 25 w' w.heap.size (fun _=>True) v0_ (lsAt eFrom Za Zc.toNat Za.length)∧Below w.heap.size w w':=by
 have hu24:=Try.underlying24
 have Zl:=Ya Zq
 have Xd:=Ya Zr
 have HE:=Ya hE
 clear Zq Zr hE
 have HB:=Ya (Yo w.heap.size w)
 go_enter Try.func141,Try.ntmps141
 go_wp2_with (first|((with_reducible refine gate_dst (N:=1) rfl ?_);refine Yz ?hg (N:=1) ?hd (cs:= #[.int .i64 Zc, .bool Zb, .slice Ze Za.length Zd]) (t:=24) ?hr ?_;(case hd=>rfl);(case hg=>rfl);(case hr=>first|(go_simp;done)|(go_simp;rfl));intro Xu hg w4 Zf hb;have n0_:=Ya (Yk (by repeat(first|(with_reducible first|exact HB.out|apply Ye|apply Yd|apply Yg)|exact HB.out)) hb);have n1_:=Ya (Zf);have n2_:=Ya (Yt Zl.out hb);clear HB Zl;have HB:=n0_;have Zm:=n1_;have Zl:=n2_;clear n0_ n1_ n2_;clear hb Zf hg;have hcz5_0:w4.cell? ⟨Xu,0,none⟩=some (.int .i64 Zc):=(Yc Zm.out 0).trans rfl;have hcz5_1:w4.cell? ⟨Xu,1,none⟩=some (.bool Zb):=(Yc Zm.out 1).trans rfl;have hcz5_2:w4.cell? ⟨Xu,2,none⟩=some (.slice Ze Za.length Zd):=(Yc Zm.out 2).trans rfl)|fail)
 refine(listsFrom_calls Zc Zb Ze Zd Za _ Zl.out Xd.out h0 h1 hl HE.out).mono ?_
 rintro e w5 ⟨v0,rfl,hS,hb⟩
 have HS:=Ya (Kd.S_lower hS HB.out.size)
 have HB5:=Ya (Yk HB.out hb)
 clear hS hb hcz5_0 hcz5_1 hcz5_2 Zm
 go_wp2
 go_ret
 exact⟨_,rfl,HS.out,HB5.out⟩
set_option maxHeartbeats 1000000 in
set_option maxRecDepth 100000 in
theorem coming_calls (Zc:Int) (Zb:Bool) (Ze:Option Addr) (Zd:Nat) (Za:List S74) (w:World) (Zq:Kd.C k74 w Ze Za.length Za) (Zr:Za.length≤Zd) (h0:0≤Zc) (h1:Zc≤1000000) (hl:Za.length≤1000000) (hE: ∀ k:Nat,k<Za.length→0≤eTo (rd_T74 Za k)∧eTo (rd_T74 Za k)<Zc):
  Calls Try.prog 142 #[.agg #[.int .i64 Zc, .bool Zb, .slice Ze Za.length Zd]] w fun e w'=> ∃ v0_:Value,e= .returned v0_∧Kd.S (Kd.slice 3 (Kd.int .i64)) 25 w' w.heap.size (fun _=>True) v0_ (lsAt eTo Za Zc.toNat Za.length)∧Below w.heap.size w w':=by
 have hu24:=Try.underlying24
 have Zl:=Ya Zq
 have Xd:=Ya Zr
 have HE:=Ya hE
 clear Zq Zr hE
 have HB:=Ya (Yo w.heap.size w)
 go_enter Try.func142,Try.ntmps142
 go_wp2_with (first|((with_reducible refine gate_dst (N:=1) rfl ?_);refine Yz ?hg (N:=1) ?hd (cs:= #[.int .i64 Zc, .bool Zb, .slice Ze Za.length Zd]) (t:=24) ?hr ?_;(case hd=>rfl);(case hg=>rfl);(case hr=>first|(go_simp;done)|(go_simp;rfl));intro Xu hg w4 Zf hb;have n0_:=Ya (Yk (by repeat(first|(with_reducible first|exact HB.out|apply Ye|apply Yd|apply Yg)|exact HB.out)) hb);have n1_:=Ya (Zf);have n2_:=Ya (Yt Zl.out hb);clear HB Zl;have HB:=n0_;have Zm:=n1_;have Zl:=n2_;clear n0_ n1_ n2_;clear hb Zf hg;have hcz5_0:w4.cell? ⟨Xu,0,none⟩=some (.int .i64 Zc):=(Yc Zm.out 0).trans rfl;have hcz5_1:w4.cell? ⟨Xu,1,none⟩=some (.bool Zb):=(Yc Zm.out 1).trans rfl;have hcz5_2:w4.cell? ⟨Xu,2,none⟩=some (.slice Ze Za.length Zd):=(Yc Zm.out 2).trans rfl)|fail)
 refine(listsTo_calls Zc Zb Ze Zd Za _ Zl.out Xd.out h0 h1 hl HE.out).mono ?_
 rintro e w5 ⟨v0,rfl,hS,hb⟩
 have HS:=Ya (Kd.S_lower hS HB.out.size)
 have HB5:=Ya (Yk HB.out hb)
 clear hS hb hcz5_0 hcz5_1 hcz5_2 Zm
 go_wp2
 go_ret
 exact⟨_,rfl,HS.out,HB5.out⟩
end H
namespace H
open P
def stL (l:List S74) (v:Int):Nat→List S38
 |0=>[]
 |k+1=>stL l v k ++ (if eFrom (rd_T74 l k)=v then [⟨k,false⟩] else []) ++ (if eTo (rd_T74 l k)=v then [⟨k,true⟩] else [])
def ltS (x y:S38):Prop:=x.f0<y.f0∨x.f0=y.f0∧x.f1=false∧y.f1=true
def IsSt (l:List S74) (v:Int) (k:Nat) (s:S38):Prop:= ∃ i:Nat,i<k∧s.f0=i∧(s.f1=false∧eFrom (rd_T74 l i)=v∨s.f1=true∧eTo (rd_T74 l i)=v)
theorem mem_stL (l:List S74) (v:Int) (k:Nat) (s:S38):s∈stL l v k↔IsSt l v k s:=by
 induction k with
 |zero=>
  constructor
  ·intro h;cases h
  ·rintro⟨i,h,_⟩;omega
 |succ k ih=>
  unfold stL
  rw[List.mem_append,List.mem_append,ih]
  constructor
  ·rintro((⟨i,h1,h2⟩|h)|h)
   ·exact⟨i,by omega,h2⟩
   ·split at h
    ·rename_i he
     rw[List.mem_singleton] at h
     subst h
     exact⟨k,by omega,rfl,Or.inl ⟨rfl,he⟩⟩
    ·cases h
   ·split at h
    ·rename_i he
     rw[List.mem_singleton] at h
     subst h
     exact⟨k,by omega,rfl,Or.inr ⟨rfl,he⟩⟩
    ·cases h
  ·rintro⟨i,h1,h2,h3⟩
   by_cases hi:i<k
   ·exact Or.inl (Or.inl ⟨i,hi,h2,h3⟩)
   ·have e:i=k:=by omega
    subst e
    obtain⟨x,y⟩:=s
    simp only at h2 h3
    subst h2
    rcases h3 with ⟨rfl,h4⟩|⟨rfl,h4⟩
    ·exact Or.inl (Or.inr (by rw[Yx h4];exact List.mem_singleton.2 rfl))
    ·exact Or.inr (by rw[Yx h4];exact List.mem_singleton.2 rfl)
theorem sorted_stL (l:List S74) (v:Int) (k:Nat):(stL l v k).Pairwise ltS:=by
 induction k with
 |zero=>exact List.Pairwise.nil
 |succ k ih=>
  unfold stL
  rw[List.pairwise_append,List.pairwise_append]
  refine⟨⟨ih,by split<;>simp,fun a ha b hb=> ?_⟩,by split<;>simp,fun a ha b hb=> ?_⟩
  ·obtain⟨i,h1,h2,_⟩:=(mem_stL l v k a).1 ha
   split at hb
   ·rw[List.mem_singleton] at hb
    subst hb
    exact Or.inl (by show a.f0<(k:Int);omega)
   ·cases hb
  ·split at hb
   ·rw[List.mem_singleton] at hb
    subst hb
    rcases List.mem_append.1 ha with ha|ha
    ·obtain⟨i,h1,h2,_⟩:=(mem_stL l v k a).1 ha
     exact Or.inl (by show a.f0<(k:Int);omega)
    ·split at ha
     ·rw[List.mem_singleton] at ha
      subst ha
      exact Or.inr ⟨rfl,rfl,rfl⟩
     ·cases ha
   ·cases hb
theorem ltS_irr (x:S38): ¬ ltS x x:=by
 rintro(h|⟨_,h1,h2⟩)
 ·omega
 ·rw[h1] at h2;cases h2
theorem ltS_trans {x y z:S38} (h:ltS x y) (k:ltS y z):ltS x z:=by
 rcases h with h|⟨h1,h2,h3⟩<;>rcases k with k|⟨k1,k2,k3⟩
 ·exact Or.inl (by omega)
 ·exact Or.inl (by omega)
 ·exact Or.inl (by omega)
 ·rw[h3] at k2;cases k2
theorem sorted_uniq: ∀ (a b:List S38),a.Pairwise ltS→b.Pairwise ltS→(∀ s,s∈a↔s∈b)→a=b
 |[],[],_,_,_=>rfl
 |[],y::b,_,_,h=>by have:=(h y).2 (List.mem_cons_self ..);cases this
 |x::a,[],_,_,h=>by have:=(h x).1 (List.mem_cons_self ..);cases this
 |x::a,y::b,ha,hb,h=>by
  rw[List.pairwise_cons] at ha hb
  have e:x=y:=by
   rcases List.mem_cons.1 ((h x).1 (List.mem_cons_self ..)) with e|h1
   ·exact e
   ·rcases List.mem_cons.1 ((h y).2 (List.mem_cons_self ..)) with e|h2
    ·exact e.symm
    ·exact absurd (ltS_trans (ha.1 y h2) (hb.1 x h1)) (ltS_irr x)
  subst e
  rw[sorted_uniq a b ha.2 hb.2 fun s=>⟨fun hs=> ?_,fun hs=> ?_⟩]
  ·rcases List.mem_cons.1 ((h s).1 (List.mem_cons_of_mem _ hs)) with e|h1
   ·subst e;exact absurd (ha.1 s hs) (ltS_irr s)
   ·exact h1
  ·rcases List.mem_cons.1 ((h s).2 (List.mem_cons_of_mem _ hs)) with e|h1
   ·subst e;exact absurd (hb.1 s hs) (ltS_irr s)
   ·exact h1
theorem lsAt_spec (E:S74→Int) (l:List S74) (n:Nat) (v:Int) (hv0:0≤v) (hv:v<n): ∀ k:Nat,(∀ i:Nat,i<k→0≤E (rd_T74 l i)∧E (rd_T74 l i)<n)→
  (∀ x,x∈rd_L7 (lsAt E l n k) v↔ ∃ i:Nat,i<k∧x=i∧E (rd_T74 l i)=v)∧(rd_L7 (lsAt E l n k) v).Pairwise (· < ·):=by
 intro k
 induction k with
 |zero=>
  intro _
  have e:rd_L7 (lsAt E l n 0) v=[]:=by
   unfold rd_L7 lsAt
   rw[List.getD_eq_getElem?_getD,List.getElem?_replicate]
   split<;>rfl
  rw[e]
  refine⟨fun x=>Iff.intro (fun h=>by cases h) ?_,List.Pairwise.nil⟩
  rintro⟨i,h,_⟩;omega
 |succ k ih=>
  intro hE
  obtain⟨h1,h2⟩:=ih fun i hi=>hE i (by omega)
  have hk:=hE k (by omega)
  by_cases c:E (rd_T74 l k)=v
  ·have e:rd_L7 (lsAt E l n (k+1)) v=rd_L7 (lsAt E l n k) v ++ [(k:Int)]:=by
    show (List.set _ _ _).getD v.toNat []=_
    rw[c,List.getD_eq_getElem?_getD,List.getElem?_set_self (by rw[lsAt_len];omega)]
    rfl
   rw[e]
   refine⟨fun x=> ?_,?_⟩
   ·rw[List.mem_append,h1,List.mem_singleton]
    constructor
    ·rintro(⟨i,a,b,d⟩|rfl)
     ·exact⟨i,by omega,b,d⟩
     ·exact⟨k,by omega,rfl,c⟩
    ·rintro⟨i,a,b,d⟩
     by_cases hi:i<k
     ·exact Or.inl ⟨i,hi,b,d⟩
     ·exact Or.inr (by rw[b];congr 1;omega)
   ·rw[List.pairwise_append]
    refine⟨h2,List.pairwise_singleton _ _,fun a ha b hb=> ?_⟩
    rw[List.mem_singleton] at hb
    obtain⟨i,q1,q2,_⟩:=(h1 a).1 ha
    omega
  ·have e:rd_L7 (lsAt E l n (k+1)) v=rd_L7 (lsAt E l n k) v:=by
    show (List.set _ _ _).getD v.toNat []=_
    rw[List.getD_eq_getElem?_getD,List.getElem?_set_ne (by omega), ← List.getD_eq_getElem?_getD]
    rfl
   rw[e]
   refine⟨fun x=> ?_,h2⟩
   rw[h1]
   constructor
   ·rintro⟨i,a,b,d⟩;exact⟨i,by omega,b,d⟩
   ·rintro⟨i,a,b,d⟩
    by_cases hi:i<k
    ·exact⟨i,hi,b,d⟩
    ·have e2:i=k:=by omega
     subst e2;exact absurd d c
def stepsU (l:List S74) (n:Nat) (v:Int):List S38:=
 (rd_L7 (lsAt eFrom l n l.length) v).map (fun i=>⟨i,false⟩) ++ (rd_L7 (lsAt eTo l n l.length) v).map (fun i=>⟨i,true⟩)
def ends (l:List S74) (n:Nat):Prop:= ∀ i:Nat,i<l.length→(0≤eFrom (rd_T74 l i)∧eFrom (rd_T74 l i)<n)∧(0≤eTo (rd_T74 l i)∧eTo (rd_T74 l i)<n)
theorem mem_stepsU (l:List S74) (n:Nat) (v:Int) (hv0:0≤v) (hv:v<n) (h:ends l n) (s:S38):s∈stepsU l n v↔IsSt l v l.length s:=by
 have hf:=(lsAt_spec eFrom l n v hv0 hv l.length fun i hi=>(h i hi).1).1
 have ht:=(lsAt_spec eTo l n v hv0 hv l.length fun i hi=>(h i hi).2).1
 unfold stepsU
 rw[List.mem_append,List.mem_map,List.mem_map]
 constructor
 ·rintro(⟨x,hx,rfl⟩|⟨x,hx,rfl⟩)
  ·obtain⟨i,a,b,d⟩:=(hf x).1 hx
   exact⟨i,a,b,Or.inl ⟨rfl,d⟩⟩
  ·obtain⟨i,a,b,d⟩:=(ht x).1 hx
   exact⟨i,a,b,Or.inr ⟨rfl,d⟩⟩
 ·rintro⟨i,a,b,⟨c,d⟩|⟨c,d⟩⟩
  ·exact Or.inl ⟨s.f0,(hf _).2 ⟨i,a,b,d⟩,by obtain⟨x,y⟩:=s;simp only at c;subst c;rfl⟩
  ·exact Or.inr ⟨s.f0,(ht _).2 ⟨i,a,b,d⟩,by obtain⟨x,y⟩:=s;simp only at c;subst c;rfl⟩
theorem stab_stepsU (l:List S74) (n:Nat) (v:Int) (hv0:0≤v) (hv:v<n) (h:ends l n):(stepsU l n v).Pairwise fun x y=>x.f0=y.f0→x.f1=false∧y.f1=true:=by
 have hf:=(lsAt_spec eFrom l n v hv0 hv l.length fun i hi=>(h i hi).1).2
 have ht:=(lsAt_spec eTo l n v hv0 hv l.length fun i hi=>(h i hi).2).2
 unfold stepsU
 rw[List.pairwise_append,List.pairwise_map,List.pairwise_map]
 refine⟨hf.imp fun {a b} hab e=> ?_,ht.imp fun {a b} hab e=> ?_,fun a ha b hb e=> ?_⟩
 ·simp only at e;omega
 ·simp only at e;omega
 ·obtain⟨x,_,rfl⟩:=List.mem_map.1 ha
  obtain⟨y,_,rfl⟩:=List.mem_map.1 hb
  exact⟨rfl,rfl⟩
end H
namespace H
open P
def stFrom (l:List S74) (s:S38):Int:=if s.f1 then eTo (rd_T74 l s.f0) else eFrom (rd_T74 l s.f0)
def stTo (l:List S74) (s:S38):Int:=if s.f1 then eFrom (rd_T74 l s.f0) else eTo (rd_T74 l s.f0)
def stTime (l:List S74) (s:S38):Int:=if s.f1 then -(rd_T74 l s.f0).f3 else(rd_T74 l s.f0).f3
def stRoom (l:List S74) (F:List Int) (s:S38):Int:=if s.f1 then F.getD s.f0.toNat 0 else(rd_T74 l s.f0).f2 - F.getD s.f0.toNat 0
structure Rch where
 D:List Int
 I:List Bool
 B:List S38
 still:Bool
def visC (l:List S74) (F:List Int) (v:Nat) (x:Rch) (s:S38):Bool:=
 decide (0<stRoom l F s) && (!x.I.getD (stTo l s).toNat false || decide (x.D.getD v 0+stTime l s<x.D.getD (stTo l s).toNat 0))
def visR (l:List S74) (F:List Int) (v:Nat) (x:Rch) (s:S38):Rch:=
 if visC l F v x s then⟨x.D.set (stTo l s).toNat (x.D.getD v 0+stTime l s),x.I.set (stTo l s).toNat true,x.B.set (stTo l s).toNat s,false⟩ else x
def rowR (l:List S74) (F:List Int) (x:Rch) (v:Nat):Rch:=if x.I.getD v false then(stL l v l.length).foldl (visR l F v) x else x
def roundR (l:List S74) (F:List Int) (n:Nat) (x:Rch):Rch:=(List.range n).foldl (rowR l F) { x with still:=true }
def goesR (l:List S74) (F:List Int) (n:Nat):Nat→Rch→Rch × Bool
 |0,x=>(x,false)
 |k+1,x=>if (roundR l F n x).still then(roundR l F n x,true) else goesR l F n k (roundR l F n x)
def absR (x:Rch):Tm:=fun v=>if x.I.getD v false then some (x.D.getD v 0) else none
structure Rch.Ok (n:Nat) (x:Rch):Prop where
 hD:x.D.length=n
 hI:x.I.length=n
 hB:x.B.length=n
theorem visR_ok {l:List S74} {F:List Int} {n v:Nat} {x:Rch} (h:x.Ok n) (s:S38):(visR l F v x s).Ok n:=by
 unfold visR
 split
 ·exact⟨by simp[h.hD],by simp[h.hI],by simp[h.hB]⟩
 ·exact h
theorem foldR_ok {l:List S74} {F:List Int} {n v:Nat} (r:List S38) {x:Rch} (h:x.Ok n):(r.foldl (visR l F v) x).Ok n:=by
 induction r generalizing x with
 |nil=>exact h
 |cons s r ih=>exact ih (visR_ok h s)
theorem rowR_ok {l:List S74} {F:List Int} {n v:Nat} {x:Rch} (h:x.Ok n):(rowR l F x v).Ok n:=by
 unfold rowR
 split
 ·exact foldR_ok _ h
 ·exact h
def edgeS (l:List S74) (v:Nat) (s:S38):Ed:=(v,(stTo l s).toNat,stTime l s)
theorem getD_set_ne {β:Type} (L:List β) (i j:Nat) (x d:β) (h:i≠j):(L.set i x).getD j d=L.getD j d:=by
 rw[List.getD_eq_getElem?_getD,List.getElem?_set_ne h,List.getD_eq_getElem?_getD]
theorem getD_set_eq {β:Type} (L:List β) (i:Nat) (x d:β) (h:i<L.length):(L.set i x).getD i d=x:=by
 rw[List.getD_eq_getElem?_getD,List.getElem?_set_self h]
 rfl
theorem visR_abs {l:List S74} {F:List Int} {n v:Nat} {x:Rch} (h:x.Ok n) (s:S38) (hv:x.I.getD v false=true) (hw:(stTo l s).toNat<n):
  absR (visR l F v x s)=(if 0<stRoom l F s then relax (absR x) (edgeS l v s) else absR x)∧(visR l F v x s).still=(x.still && !(decide (0<stRoom l F s) && trig (absR x) (edgeS l v s)))∧(visR l F v x s).I.getD v false=true:=by
 have hσ:absR x v=some (x.D.getD v 0):=by unfold absR;rw[Yx hv]
 have htr:trig (absR x) (edgeS l v s)=(!x.I.getD (stTo l s).toNat false || decide (x.D.getD v 0+stTime l s<x.D.getD (stTo l s).toNat 0)):=by
  unfold trig edgeS
  simp only[hσ]
  cases hi:x.I.getD (stTo l s).toNat false with
  |false=>
   have h2:absR x (stTo l s).toNat=none:=by unfold absR;rw[hi];rfl
   rw[h2]
   rfl
  |true=>
   have h2:absR x (stTo l s).toNat=some (x.D.getD (stTo l s).toNat 0):=by unfold absR;rw[hi];rfl
   rw[h2]
   rfl
 have hc:visC l F v x s=(decide (0<stRoom l F s) && trig (absR x) (edgeS l v s)):=by rw[htr];rfl
 unfold visR
 rw[hc]
 by_cases hr:0<stRoom l F s
 ·rw[Yx hr,Yv hr,Bool.true_and]
  cases ht:trig (absR x) (edgeS l v s) with
  |false=>
   rw[relax_off ht]
   refine⟨rfl,?_,hv⟩
   simp
  |true=>
   refine⟨?_,by simp,?_⟩
   ·funext u
    rw[relax_on ht (show absR x (edgeS l v s).1=_ from hσ)]
    show (if (x.I.set (stTo l s).toNat true).getD u false=true then some ((x.D.set (stTo l s).toNat (x.D.getD v 0+stTime l s)).getD u 0) else none)=if u=(stTo l s).toNat then _ else absR x u
    by_cases hu:u=(stTo l s).toNat
    ·subst hu
     rw[Yx rfl,getD_set_eq _ _ _ _ (by rw[h.hI];exact hw),getD_set_eq _ _ _ _ (by rw[h.hD];exact hw),Yx rfl]
     rfl
    ·rw[Yy hu,getD_set_ne _ _ _ _ _ (Ne.symm hu),getD_set_ne _ _ _ _ _ (Ne.symm hu)]
     rfl
   ·show (x.I.set (stTo l s).toNat true).getD v false=true
    by_cases hu:(stTo l s).toNat=v
    ·rw[hu,getD_set_eq _ _ _ _ (by rw[h.hI, ← hu];exact hw)]
    ·rw[getD_set_ne _ _ _ _ _ hu];exact hv
 ·rw[Yy hr,Yw hr,Bool.false_and]
  refine⟨rfl,by simp,hv⟩
def liveS (l:List S74) (F:List Int) (v:Nat):List Ed:=((stL l v l.length).filter (fun s=>decide (0<stRoom l F s))).map (edgeS l v)
theorem passT_app (E G:List Ed) (σ:Tm) (b:Bool):passT (E ++ G) σ b=passT G (passT E σ b).1 (passT E σ b).2:=by
 unfold passT
 rw[List.foldl_append]
theorem passT_or (E:List Ed) (σ:Tm) (b:Bool):(passT E σ b).2=(b || (passT E σ false).2):=by
 cases b with
 |false=>rw[Bool.false_or]
 |true=>rw[passT_true];rfl
theorem foldR_abs {l:List S74} {F:List Int} {n v:Nat} (r:List S38) (hw: ∀ s,s∈r→(stTo l s).toNat<n) {x:Rch} (h:x.Ok n) (hv:x.I.getD v false=true):
  absR (r.foldl (visR l F v) x)=pass ((r.filter (fun s=>decide (0<stRoom l F s))).map (edgeS l v)) (absR x)∧
  (r.foldl (visR l F v) x).still=(x.still && !(passT ((r.filter (fun s=>decide (0<stRoom l F s))).map (edgeS l v)) (absR x) false).2):=by
 induction r generalizing x with
 |nil=>exact⟨rfl,by simp[passT]⟩
 |cons s r ih=>
  obtain⟨h1,h2,h3⟩:=visR_abs (F:=F) h s hv (hw s List.mem_cons_self)
  obtain⟨h4,h5⟩:=ih (fun s hs=>hw s (List.mem_cons_of_mem _ hs)) (visR_ok h s) h3
  rw[List.foldl_cons]
  rw[h1] at h4 h5
  rw[h2] at h5
  rw[h4,h5]
  by_cases hr:0<stRoom l F s
  ·rw[List.filter_cons_of_pos (p:=fun s=>decide (0<stRoom l F s)) (Yv hr),List.map_cons,Yx hr,Yv hr,Bool.true_and]
   refine⟨rfl,?_⟩
   show _=(x.still && !(passT _ (relax (absR x) (edgeS l v s)) (false || trig (absR x) (edgeS l v s))).2)
   rw[passT_or _ _ (false || _),Bool.false_or]
   cases x.still<;>cases trig (absR x) (edgeS l v s)<;>simp
  ·rw[List.filter_cons_of_neg (p:=fun s=>decide (0<stRoom l F s)) (by simpa using hr),Yy hr,Yw hr,Bool.false_and]
   exact⟨rfl,by simp⟩
theorem rowR_abs {l:List S74} {F:List Int} {n v:Nat} (hw: ∀ s,s∈stL l v l.length→(stTo l s).toNat<n) {x:Rch} (h:x.Ok n):
  absR (rowR l F x v)=pass (liveS l F v) (absR x)∧(rowR l F x v).still=(x.still && !(passT (liveS l F v) (absR x) false).2):=by
 unfold rowR
 by_cases hv:x.I.getD v false=true
 ·rw[Yx hv]
  exact foldR_abs _ hw h hv
 ·rw[Yy hv]
  have h0:absR x v=none:=by unfold absR;rw[Yy hv]
  have h1: ∀ e,e∈liveS l F v→trig (absR x) e=false:=by
   intro e he
   obtain⟨s,_,rfl⟩:=List.mem_map.1 he
   unfold trig edgeS
   simp only[h0]
  have h2:=passT_still h1
  refine⟨?_,by rw[h2];simp⟩
  rw[← passT_fst _ _ false,h2]
def liveE (l:List S74) (F:List Int) (n:Nat):List Ed:=(List.range n).flatMap (liveS l F)
theorem rows_abs {l:List S74} {F:List Int} {n:Nat} (hw: ∀ (v:Nat) (s:S38),s∈stL l v l.length→(stTo l s).toNat<n) (vs:List Nat) {x:Rch} (h:x.Ok n):
  (vs.foldl (rowR l F) x).Ok n∧absR (vs.foldl (rowR l F) x)=pass (vs.flatMap (liveS l F)) (absR x)∧(vs.foldl (rowR l F) x).still=(x.still && !(passT (vs.flatMap (liveS l F)) (absR x) false).2):=by
 induction vs generalizing x with
 |nil=>exact⟨h,rfl,by simp[passT]⟩
 |cons v vs ih=>
  obtain⟨h1,h2⟩:=rowR_abs (F:=F) (hw v) h
  obtain⟨h3,h4,h5⟩:=ih (rowR_ok (l:=l) (F:=F) (v:=v) h)
  rw[List.foldl_cons,List.flatMap_cons]
  refine⟨h3,?_,?_⟩
  ·rw[h4,h1]
   unfold pass
   rw[List.foldl_append]
  ·rw[h5,h2,h1,passT_app,passT_or _ _ (passT (liveS l F v) (absR x) false).2,passT_fst]
   cases x.still<;>simp
theorem roundR_abs {l:List S74} {F:List Int} {n:Nat} (hw: ∀ (v:Nat) (s:S38),s∈stL l v l.length→(stTo l s).toNat<n) {x:Rch} (h:x.Ok n):
  (roundR l F n x).Ok n∧absR (roundR l F n x)=pass (liveE l F n) (absR x)∧(roundR l F n x).still= !(passT (liveE l F n) (absR x) false).2:=by
 obtain⟨h1,h2,h3⟩:=rows_abs (F:=F) hw (List.range n) (x:= { x with still:=true }) ⟨h.hD,h.hI,h.hB⟩
 refine⟨h1,h2,?_⟩
 unfold roundR
 rw[h3]
 simp[liveE]
 rfl
theorem goesR_spec {l:List S74} {F:List Int} {n:Nat} (hw: ∀ (v:Nat) (s:S38),s∈stL l v l.length→(stTo l s).toNat<n) (k:Nat) {x:Rch} (h:x.Ok n):
  (goesR l F n k x).1.Ok n∧(∃ m,m≤k∧absR (goesR l F n k x).1=its (liveE l F n) m (absR x))∧((goesR l F n k x).2=true→ ∀ e,e∈liveE l F n→trig (absR (goesR l F n k x).1) e=false)∧
  ((goesR l F n k x).2=false→ ∀ m,m<k→pass (liveE l F n) (its (liveE l F n) m (absR x))≠its (liveE l F n) m (absR x)):=by
 induction k generalizing x with
 |zero=>exact⟨h,⟨0,Nat.le_refl _,rfl⟩,fun h=>(by cases h),fun _ m hm=>absurd hm (Nat.not_lt_zero _)⟩
 |succ k ih=>
  obtain⟨h1,h2,h3⟩:=roundR_abs (F:=F) hw h
  unfold goesR
  cases hs:(roundR l F n x).still with
  |true=>
   rw[Yx rfl]
   have hq:(passT (liveE l F n) (absR x) false).2=false:=by rw[hs] at h3;simpa using h3.symm
   have hq2:=passT_still (passT_false hq)
   have hq3:pass (liveE l F n) (absR x)=absR x:=by rw[← passT_fst _ _ false,hq2]
   refine⟨h1,⟨0,Nat.zero_le _,by show absR (roundR l F n x)=absR x;rw[h2,hq3]⟩,fun _=> ?_,fun h=>(by cases h)⟩
   show ∀ e,e∈liveE l F n→trig (absR (roundR l F n x)) e=false
   rw[h2,hq3]
   exact passT_false hq
  |false=>
   rw[Yy (by simp)]
   obtain⟨g1,⟨m,hm,g2⟩,g3,g4⟩:=ih h1
   refine⟨g1,⟨m+1,by omega,?_⟩,g3,fun hf m hm=> ?_⟩
   ·rw[g2,h2];rfl
   ·cases m with
    |zero=>
     show pass (liveE l F n) (absR x)≠absR x
     intro he
     have:=passT_still (pass_fix he)
     rw[this,hs] at h3
     cases h3
    |succ m=>
     have:=g4 hf m (by omega)
     rw[h2] at this
     exact this
end H
namespace H
structure BelowW (w:World) where
 at_:World
 below:Below w.heap.size w at_
instance (w:World):Inhabited (BelowW w):=⟨⟨w,Yo _ _⟩⟩
theorem wp_region_quiet_below {P:Program} {id:Nat} {Q:Exit→Act→World→Prop} {a:Act} {w:World} {l:List Oper} (hm:P.follows .mixedOrders=true) (hB:Region.lexB .any l.toArray=true)
  (h:wpQuiet P l.toArray (fun w'=> ∃ p:BelowW w,w'=p.at_) (fun a'=> ∀ w',(∃ p:BelowW w,w'=p.at_)→Q .normal a' w') l a):(Code.region id l.toArray true).wp P Q a w:=
 wp_region_quiet (C:=fun w'=> ∃ p:BelowW w,w'=p.at_) hm hB ⟨⟨w.drew,below_drew (Yo _ _)⟩,rfl⟩ (by simpa using h)
theorem calls_below_of {P:Program} {f:FuncId} {args:Array Value} {w:World} {p:BelowW w} {v:Value} (h:Calls P f args p.at_ fun e w'=>e= .returned v∧Below p.at_.heap.size p.at_ w'):
  Calls P f args p.at_ fun e w''=>e= .returned v∧ ∃ q:BelowW w,w''=q.at_:=
 h.mono fun _ w' ⟨he,hb⟩=>⟨he,⟨w',below_then p.below p.below.size hb⟩,rfl⟩
theorem BelowW.cell {w:World} (p:BelowW w) {a:Addr} {v:Value} (h:w.cell? a=some v):p.at_.cell? a=some v:=pw_cell_below p.below h
end H
namespace H
open P
attribute [local irreducible] wpQuiet
set_option maxRecDepth 100000 in
theorem cmp_calls (x y:S38) (hx0:0≤x.f0) (hx1:x.f0≤1000000) (hy0:0≤y.f0) (hy1:y.f0≤1000000) (w:World):
  Calls Try.prog 144 #[.agg #[.int .i64 x.f0, .bool x.f1], .agg #[.int .i64 y.f0, .bool y.f1]] w fun e w'=>e= .returned (.int .i64 (x.f0 - y.f0))∧Below w.heap.size w w':=by
 go_enter Try.func144,Try.ntmps144
 go_wp2
 go_ret
 exact⟨rfl,((Yo _ _).alloc (Nat.le_refl _) _).alloc (by simp) _⟩
set_option maxHeartbeats 1000000 in
set_option maxRecDepth 100000 in
theorem insertion_calls (g N cap:Nat) (M:Nat→S38) (a b:Nat) (w:World) (h:Arr w g N M) (hN:N≤1000000) (hab:a≤b) (hb:b≤N) (hs:Stab M N) (hsm:Small M N):
  Calls Try.prog 169 #[.slice (some ⟨g,0,none⟩) N cap, .int .i64 (a:Int), .int .i64 (b:Int), .func (.func 144) #[] #[]] w fun e w'=>e= .returned (.tuple #[])∧(∃ K,Arr w' g N K∧Sorted M K N a b)∧Fr w w' g:=by
 have HA:=Ya h
 have HSM:=Ya hsm
 have HST:=Ya hs
 clear h hs hsm
 go_enter Try.func169,Try.ntmps169
 go_wp2
 go_loopw [8] (fun i wr=> ∃ k:Nat,a+1≤k∧(k≤b∨k=a+1)∧i= .int .i64 k∧(∃ K,Aside0 (Arr wr g N K)∧Aside0 (Mix M K a b∧Stab K N∧Small K N∧Le K a k))∧Aside0 (Fr w wr g)) (fun i _=>b+1 - (intOf i).toNat)
 case atStart=>exact⟨a+1,by omega,by omega,by go_num,⟨M,HA,⟨mix_refl _ _ _,HST.out,HSM.out,le_one _ _ _ (Nat.le_refl _)⟩⟩,⟨grow_refl _ _⟩⟩
 case round=>
  obtain⟨k,hk0,hk,rfl,⟨K,HA1,HK1⟩,HG⟩:=hrel
  clear HA HSM HST
  by_cases hlt:k<b
  ·have HH:Aside0 (Mix M K a b∧Stab K N∧Small K N∧Hole K a k k):=⟨HK1.out.1,HK1.out.2.1,HK1.out.2.2.1,hole_start HK1.out.2.2.2⟩
   clear HK1
   go_wp2
   obtain⟨wo,rfl⟩: ∃ wo:World,wo=wr:=⟨_,rfl⟩
   go_loopw [9] (fun vj wr=> ∃ j:Nat,a≤j∧j≤k∧vj= .int .i64 j∧(∃ K,Aside0 (Arr wr g N K)∧Aside0 (Mix M K a b∧Stab K N∧Small K N∧Hole K a k j))∧Aside0 (Fr w wr g)) (fun vj _=>(intOf vj).toNat)
   case atStart=>exact⟨k,by omega,Nat.le_refl _,rfl,⟨K,HA1,HH⟩,HG⟩
   case round=>
    clear HA1 HH HG
    obtain⟨j,hj0,hj,rfl,⟨K,HA1,HK⟩,HG⟩:=hrel
    by_cases hja:a<j
    ·obtain⟨jp,rfl⟩: ∃ jp,j=jp+1:=⟨j - 1,by omega⟩
     have c0:=HA1.out.cell0 (x:=jp+1) (by omega)
     have c1:=HA1.out.cell1 (x:=jp+1) (by omega)
     have d0:=HA1.out.cell0 (x:=jp) (by omega)
     have d1:=HA1.out.cell1 (x:=jp) (by omega)
     have cc0: ∀ p:BelowW wr,p.at_.cell? ⟨g,(jp+1) * 2,none⟩=some (.int .i64 (K (jp+1)).f0):=fun p=>p.cell c0
     have cc1: ∀ p:BelowW wr,p.at_.cell? ⟨g,(jp+1) * 2+1,none⟩=some (.bool (K (jp+1)).f1):=fun p=>p.cell c1
     have dd0: ∀ p:BelowW wr,p.at_.cell? ⟨g,jp * 2,none⟩=some (.int .i64 (K jp).f0):=fun p=>p.cell d0
     have dd1: ∀ p:BelowW wr,p.at_.cell? ⟨g,jp * 2+1,none⟩=some (.bool (K jp).f1):=fun p=>p.cell d1
     have hwp:IntKind.i64.wrap (jp:Int)=(jp:Int):=by rw[IntKind.wrap_i64];omega
     have jz:(jp:Int)+1<(N:Int):=by omega
     have jz1:(jp:Int)<(N:Int):=by omega
     have p0:(0:Int)≤(jp:Int)+1:=by omega
     have e0:((jp:Int)+1).toNat=jp+1:=by omega
     have g1:(a:Int)<(jp:Int)+1:=by omega
     have e1:=HK.out.2.2.1 (jp+1) (by omega)
     have e2:=HK.out.2.2.1 jp (by omega)
     clear c0 c1 d0 d1
     go_wp2
     refine wp_region_quiet_below (by kernel_rfl) (by kernel_rfl) ?_;(repeat(quiet_step ((go_at_call 144;exact calls_below_of (cmp_calls (K (jp+1)) (K jp) e1.1 e1.2 e2.1 e2.2 _)))));refine wpQuiet_nil ?_;intro wq hw';obtain⟨⟨wz,hbq⟩,hwq⟩:=hw';subst hwq
     have HA2:Aside0 (Arr wq g N K):=⟨HA1.out.below hbq⟩
     have HG2:Aside0 (Fr w wq g):=⟨grow_trans HG.out (grow_below hbq)⟩
     clear cc0 cc1 dd0 dd1 HA1 HG hbq
     by_cases hc:(K (jp+1)).f0<(K jp).f0
     ·have hcd:(K (jp+1)).f0 - (K jp).f0<0:=by omega
      have HK2:Aside0 (Mix M (sw K jp) a b∧Stab (sw K jp) N∧Small (sw K jp) N∧Hole (sw K jp) a k jp):=
       ⟨mix_trans HK.out.1 (sw_mix K jp a b (by omega) (by omega)),sw_stab HK.out.2.1 (by omega) hc,mix_small (sw_mix K jp a b (by omega) (by omega)) hb HK.out.2.2.1,hole_swap HK.out.2.2.2 (by omega) (by omega) hc⟩
      have c0:=HA2.out.cell0 (x:=jp+1) (by omega)
      have c1:=HA2.out.cell1 (x:=jp+1) (by omega)
      have d0:=HA2.out.cell0 (x:=jp) (by omega)
      have d1:=HA2.out.cell1 (x:=jp) (by omega)
      have f0:=HA2.out.free
      have HE:Aside0 (∀ x,upd (upd K (jp+1) (K jp)) jp (K (jp+1)) x=sw K jp x):=⟨sw_put1 K jp⟩
      obtain⟨s1,hs1⟩: ∃ s,K (jp+1)=s:=⟨_,rfl⟩
      obtain⟨s2,hs2⟩: ∃ s,K jp=s:=⟨_,rfl⟩
      have HE2:Aside0 (∀ x,upd (upd K (jp+1) s2) jp s1 x=sw K jp x):=by rw[← hs1, ← hs2];exact HE
      rw[hs1] at c0 c1 hcd ⊢
      rw[hs2] at d0 d1 hcd ⊢
      clear e1 e2 HK hc HE hs1 hs2
      go_wp2_with fail
      go_region
      have HA3:Aside0 (Arr (((((wq.setCell ⟨g,(jp+1) * 2,none⟩ (.int .i64 s2.f0)).setCell ⟨g,(jp+1) * 2+1,none⟩ (.bool s2.f1)).setCell ⟨g,jp * 2,none⟩ (.int .i64 s1.f0)).setCell ⟨g,jp * 2+1,none⟩ (.bool s1.f1)).drew) g N (sw K jp)):=
       ⟨(((HA2.out.put (by omega) s2).put (by omega) s1).drew).congr fun x _=>(HE2.out x).symm⟩
      have HG3:=Ya (grow_drew (grow_set (grow_set (grow_set (grow_set HG2.out ((jp+1) * 2) (.int .i64 s2.f0)) ((jp+1) * 2+1) (.bool s2.f1)) (jp * 2) (.int .i64 s1.f0)) (jp * 2+1) (.bool s1.f1)))
      clear c0 c1 d0 d1 f0 HA2 HG2 HE2
      go_wp2
      go_roundw
      case rel=>exact⟨jp,by omega,by omega,rfl,⟨_,HA3,HK2⟩,HG3⟩
      case measure=>simp[intOf]<;>omega
     ·have hcd: ¬ ((K (jp+1)).f0 - (K jp).f0<0):=by omega
      have HK2:Aside0 (Mix M K a b∧Stab K N∧Small K N∧Le K a (k+1)):=
       ⟨HK.out.1,HK.out.2.1,HK.out.2.2.1,hole_stop HK.out.2.2.2 (Or.inr ⟨by omega,by rw[Nat.add_sub_cancel];omega⟩)⟩
      clear e1 e2 HK hc
      go_wp2_with fail
      go_roundw
      case rel=>exact⟨k+1,by omega,by omega,by go_num,⟨_,HA2,HK2⟩,HG2⟩
      case measure=>simp[intOf]<;>omega
    ·have ej:j=a:=by omega
     have HK2:Aside0 (Mix M K a b∧Stab K N∧Small K N∧Le K a (k+1)):=
      ⟨HK.out.1,HK.out.2.1,HK.out.2.2.1,hole_stop HK.out.2.2.2 (Or.inl ej)⟩
     have g1: ¬ ((a:Int)<(j:Int)):=by omega
     clear HK
     go_wp2
     refine wp_region_quiet_below (by kernel_rfl) (by kernel_rfl) ?_;(repeat(quiet_step ((fail))));refine wpQuiet_nil ?_;intro wq hw';obtain⟨⟨wz,hbq⟩,hwq⟩:=hw';subst hwq
     have HA2:Aside0 (Arr wq g N K):=⟨HA1.out.below hbq⟩
     have HG2:Aside0 (Fr w wq g):=⟨grow_trans HG.out (grow_below hbq)⟩
     clear HA1 HG hbq
     go_wp2_with fail
     go_roundw
     case rel=>exact⟨k+1,by omega,by omega,by go_num,⟨_,HA2,HK2⟩,HG2⟩
     case measure=>simp[intOf]<;>omega
  ·go_wp2
   go_end0
   refine⟨rfl,⟨K,HA1.out,HK1.out.1,HK1.out.2.1,HK1.out.2.2.1,?_⟩,HG.out⟩
   intro x y h1 h2 h3
   exact HK1.out.2.2.2 x y h1 h2 (by omega)
end H
namespace H
open P
attribute [local irreducible] wpQuiet
theorem Arr.q0 {w:World} {g N:Nat} {M:Nat→S38} (h:Arr w g N M) {x:Nat} (hx:x<N): ∀ p:BelowW w,p.at_.cell? ⟨g,x * 2,none⟩=some (.int .i64 (M x).f0):=fun p=>p.cell (h.cell0 hx)
theorem Arr.q1 {w:World} {g N:Nat} {M:Nat→S38} (h:Arr w g N M) {x:Nat} (hx:x<N): ∀ p:BelowW w,p.at_.cell? ⟨g,x * 2+1,none⟩=some (.bool (M x).f1):=fun p=>p.cell (h.cell1 hx)
set_option maxHeartbeats 1000000 in
set_option maxRecDepth 100000 in
theorem symLo_calls (g N cap:Nat) (M:Nat→S38) (a b:Nat) (w:World) (h:Arr w g N M) (hN:N≤1000000) (hab:a+1<b) (hb:b≤N) (hs:Stab M N) (hsm:Small M N) (hle:Le M (a+1) b):
  Calls Try.prog 170 #[.slice (some ⟨g,0,none⟩) N cap, .int .i64 (a:Int), .int .i64 ((a:Int)+1), .int .i64 (b:Int), .func (.func 144) #[] #[]] w fun e w'=>e= .returned (.tuple #[])∧(∃ K,Arr w' g N K∧Sorted M K N a b)∧Fr w w' g:=by
 have HA:=Ya h
 have HSM:=Ya hsm
 have HST:=Ya hs
 have HLE:=Ya hle
 clear h hs hsm hle
 have e1:(a:Int)+1 - (a:Int)=1:=by omega
 go_enter Try.func170,Try.ntmps170
 go_wp2_with fail
 go_loopw [10,11] (fun vi vj wr=> ∃ i j:Nat,a+1≤i∧i≤j∧j≤b∧vi= .int .i64 i∧vj= .int .i64 j∧Aside0 (Arr wr g N M)∧Aside0 (∀ y,a+1≤y→y<i→(M y).f0<(M a).f0)∧Aside0 (∀ y,j≤y→y<b→(M a).f0≤(M y).f0)∧Aside0 (Fr w wr g)) (fun vi vj _=>(intOf vj).toNat - (intOf vi).toNat)
 case atStart=>exact⟨a+1,b,Nat.le_refl _,by omega,Nat.le_refl _,by go_num,rfl,HA,⟨fun y h1 h2=>by omega⟩,⟨fun y h1 h2=>by omega⟩,⟨grow_refl _ _⟩⟩
 case round=>
  clear HA
  obtain⟨i,j,hi,hij,hj,rfl,rfl,HA1,HL,HR,HG⟩:=hrel
  by_cases hlt:i<j
  ·obtain⟨c,hc⟩: ∃ c,(i+j) / 2=c:=⟨_,rfl⟩
   have hcz:((i:Int)+(j:Int)) / 2=(c:Int):=by omega
   have b1:=HSM.out c (by omega)
   have b2:=HSM.out a (by omega)
   have c0:=HA1.out.q0 (x:=c) (by omega)
   have c1:=HA1.out.q1 (x:=c) (by omega)
   have d0:=HA1.out.q0 (x:=a) (by omega)
   have d1:=HA1.out.q1 (x:=a) (by omega)
   have z1:(c:Int)<(N:Int):=by omega
   have z2:(a:Int)<(N:Int):=by omega
   go_wp2_with fail
   refine wp_region_quiet_below (by kernel_rfl) (by kernel_rfl) ?_;(repeat(quiet_step ((go_at_call 144;exact calls_below_of (cmp_calls (M c) (M a) b1.1 b1.2 b2.1 b2.2 _)))));refine wpQuiet_nil ?_;intro wq hw';obtain⟨⟨wz,hbq⟩,hwq⟩:=hw';subst hwq
   have HA2:Aside0 (Arr wq g N M):=⟨HA1.out.below hbq⟩
   have HG2:Aside0 (Fr w wq g):=⟨grow_trans HG.out (grow_below hbq)⟩
   have HC:=Ya hc
   clear c0 c1 d0 d1 HA1 HG hbq hcz hc
   have HC2:Aside0 (a+1≤c∧i≤c∧c<j):=by have:=HC.out;exact⟨by omega,by omega,by omega⟩
   clear HC
   by_cases hlc:(M c).f0<(M a).f0
   ·have hcd:(M c).f0 - (M a).f0<0:=by omega
    have HL2:Aside0 (∀ y,a+1≤y→y<c+1→(M y).f0<(M a).f0):=⟨fun y h1 h2=>by
     have:=le_le HLE.out h1 (show y≤c by omega) (by have:=HC2.out;omega)
     omega⟩
    clear HL hlc b1 b2
    go_wp2_with fail
    go_roundw
    case rel=>exact⟨c+1,j,by have:=HC2.out;omega,by have:=HC2.out;omega,hj,by go_num,rfl,HA2,HL2,HR,HG2⟩
    case measure=>have:=HC2.out;simp[intOf]<;>omega
   ·have hcd: ¬ ((M c).f0 - (M a).f0<0):=by omega
    have HR2:Aside0 (∀ y,c≤y→y<b→(M a).f0≤(M y).f0):=⟨fun y h1 h2=>by
     have:=le_le HLE.out (show a+1≤c by have:=HC2.out;omega) h1 h2
     omega⟩
    clear HR hlc b1 b2
    go_wp2_with fail
    go_roundw
    case rel=>exact⟨i,c,hi,by have:=HC2.out;omega,by have:=HC2.out;omega,rfl,rfl,HA2,HL,HR2,HG2⟩
    case measure=>have:=HC2.out;simp[intOf]<;>omega
  ·have ij:i=j:=by omega
   subst ij
   go_wp2_with fail
   have HB:Aside0 (Le (rotM M a (a+1) i) a b∧Stab (rotM M a (a+1) i) N):=⟨rot_one_lo HLE.out hi hj HL.out HR.out,rot_stab HST.out (by omega) hi (by omega) (fun x y h1 h2 h3 h4=>by
    have e:x=a:=by omega
    subst e;exact HL.out y h3 h4)⟩
   clear HL HR HLE HST
   obtain⟨wo,rfl⟩: ∃ wo:World,wo=wr:=⟨_,rfl⟩
   go_loopw [13] (fun vk wr=> ∃ k:Nat,a≤k∧k<i∧vk= .int .i64 k∧(∃ K,Aside0 (Arr wr g N K)∧Aside0 (∀ x,K x=rotM M a (a+1) (k+1) x))∧Aside0 (Fr w wr g)) (fun vk _=>i - (intOf vk).toNat)
   case atStart=>exact⟨a,by omega,by omega,rfl,⟨M,HA1,⟨fun x=>(rot_none M (by omega) (by omega) (Or.inr rfl) x).symm⟩⟩,HG⟩
   case round=>
    clear HA1 HG
    obtain⟨k,hk0,hk,rfl,⟨K,HA1,HK⟩,HG⟩:=hrel
    by_cases hlt2:k+1<i
    ·have c0:=HA1.out.cell0 (x:=k+1) (by omega)
     have c1:=HA1.out.cell1 (x:=k+1) (by omega)
     have d0:=HA1.out.cell0 (x:=k) (by omega)
     have d1:=HA1.out.cell1 (x:=k) (by omega)
     have f0:=HA1.out.free
     have HK2:Aside0 (∀ x,upd (upd K k (K (k+1))) (k+1) (K k) x=rotM M a (a+1) (k+1+1) x):=⟨fun x=>by
      rw[sw_put2];have e:K=rotM M a (a+1) (k+1):=funext HK.out;rw[e];exact sw_rot_lo M hk0 x⟩
     obtain⟨s1,hs1⟩: ∃ s,K (k+1)=s:=⟨_,rfl⟩
     obtain⟨s2,hs2⟩: ∃ s,K k=s:=⟨_,rfl⟩
     rw[hs1] at c0 c1 HK2
     rw[hs2] at d0 d1 HK2
     clear HK hs1 hs2
     go_wp2
     go_region
     have HA3:Aside0 (Arr (((((wr.setCell ⟨g,k * 2,none⟩ (.int .i64 s1.f0)).setCell ⟨g,k * 2+1,none⟩ (.bool s1.f1)).setCell ⟨g,(k+1) * 2,none⟩ (.int .i64 s2.f0)).setCell ⟨g,(k+1) * 2+1,none⟩ (.bool s2.f1)).drew) g N (upd (upd K k s1) (k+1) s2)):=
      ⟨((HA1.out.put (by omega) s1).put (by omega) s2).drew⟩
     have HG3:=Ya (grow_drew (grow_set (grow_set (grow_set (grow_set HG.out (k * 2) (.int .i64 s1.f0)) (k * 2+1) (.bool s1.f1)) ((k+1) * 2) (.int .i64 s2.f0)) ((k+1) * 2+1) (.bool s2.f1)))
     clear c0 c1 d0 d1 f0 HA1 HG
     go_wp2
     go_roundw
     case rel=>exact⟨k+1,by omega,by omega,by go_num,⟨_,HA3,HK2⟩,HG3⟩
     case measure=>simp[intOf]<;>omega
    ·have ek:k+1=i:=by omega
     have HA3:Aside0 (Arr wr g N (rotM M a (a+1) i)):=⟨HA1.out.congr fun x _=>by rw[HK.out,ek]⟩
     clear HA1 HK
     go_wp2
     (try simp only[Exit.inBlock,Exit.then]);refine bodyPost_ret (results_none rfl _ _ _) rfl ?_
     exact⟨rfl,⟨_,HA3.out,mix_wide (rot_mix M (by omega) (by omega)) (Nat.le_refl _) hj,HB.out.2,mix_small (rot_mix M (by omega) hi) (by omega) HSM.out,HB.out.1⟩,HG.out⟩
end H
namespace H
open P
attribute [local irreducible] wpQuiet
set_option maxHeartbeats 2000000 in
set_option maxRecDepth 100000 in
theorem symHi_calls (g N cap:Nat) (M:Nat→S38) (a m:Nat) (w:World) (h:Arr w g N M) (hN:N≤1000000) (hab:a+1<m) (hb:m+1≤N) (hs:Stab M N) (hsm:Small M N) (hle:Le M a m):
  Calls Try.prog 170 #[.slice (some ⟨g,0,none⟩) N cap, .int .i64 (a:Int), .int .i64 (m:Int), .int .i64 ((m:Int)+1), .func (.func 144) #[] #[]] w fun e w'=>e= .returned (.tuple #[])∧(∃ K,Arr w' g N K∧Sorted M K N a (m+1))∧Fr w w' g:=by
 have HA:=Ya h
 have HSM:=Ya hsm
 have HST:=Ya hs
 have HLE:=Ya hle
 clear h hs hsm hle
 have e1:(m:Int)+1 - (m:Int)=1:=by omega
 have e2:(((m:Int) - (a:Int)) == 1)=false:=by rw[beq_eq_false_iff_ne];omega
 go_enter Try.func170,Try.ntmps170
 go_wp2_with fail
 go_loopw [14,15] (fun vi vj wr=> ∃ i j:Nat,a≤i∧i≤j∧j≤m∧vi= .int .i64 i∧vj= .int .i64 j∧Aside0 (Arr wr g N M)∧Aside0 (∀ y,a≤y→y<i→(M y).f0≤(M m).f0)∧Aside0 (∀ y,j≤y→y<m→(M m).f0<(M y).f0)∧Aside0 (Fr w wr g)) (fun vi vj _=>(intOf vj).toNat - (intOf vi).toNat)
 case atStart=>exact⟨a,m,Nat.le_refl _,by omega,Nat.le_refl _,rfl,rfl,HA,⟨fun y h1 h2=>by omega⟩,⟨fun y h1 h2=>by omega⟩,⟨grow_refl _ _⟩⟩
 case round=>
  clear HA
  obtain⟨i,j,hi,hij,hj,rfl,rfl,HA1,HL,HR,HG⟩:=hrel
  by_cases hlt:i<j
  ·obtain⟨c,hc⟩: ∃ c,(i+j) / 2=c:=⟨_,rfl⟩
   have hcz:((i:Int)+(j:Int)) / 2=(c:Int):=by omega
   have b1:=HSM.out c (by omega)
   have b2:=HSM.out m (by omega)
   have c0:=HA1.out.q0 (x:=c) (by omega)
   have c1:=HA1.out.q1 (x:=c) (by omega)
   have d0:=HA1.out.q0 (x:=m) (by omega)
   have d1:=HA1.out.q1 (x:=m) (by omega)
   have z1:(c:Int)<(N:Int):=by omega
   have z2:(m:Int)<(N:Int):=by omega
   go_wp2_with fail
   refine wp_region_quiet_below (by kernel_rfl) (by kernel_rfl) ?_;(repeat(quiet_step ((go_at_call 144;exact calls_below_of (cmp_calls (M m) (M c) b2.1 b2.2 b1.1 b1.2 _)))));refine wpQuiet_nil ?_;intro wq hw';obtain⟨⟨wz,hbq⟩,hwq⟩:=hw';subst hwq
   have HA2:Aside0 (Arr wq g N M):=⟨HA1.out.below hbq⟩
   have HG2:Aside0 (Fr w wq g):=⟨grow_trans HG.out (grow_below hbq)⟩
   have HC:=Ya hc
   clear c0 c1 d0 d1 HA1 HG hbq hcz hc
   have HC2:Aside0 (a≤c∧i≤c∧c<j):=by have:=HC.out;exact⟨by omega,by omega,by omega⟩
   clear HC
   by_cases hlc:(M m).f0<(M c).f0
   ·have hcd:(!decide ((M m).f0 - (M c).f0<0))=false:=by rw[Yv (by omega)];rfl
    have HR2:Aside0 (∀ y,c≤y→y<m→(M m).f0<(M y).f0):=⟨fun y h1 h2=>by
     have:=le_le HLE.out (show a≤c by have:=HC2.out;omega) h1 h2
     omega⟩
    clear HR hlc b1 b2
    rw[hcd]
    clear hcd
    go_wp2_with fail
    go_roundw
    case rel=>exact⟨i,c,hi,by have:=HC2.out;omega,by have:=HC2.out;omega,rfl,rfl,HA2,HL,HR2,HG2⟩
    case measure=>have:=HC2.out;simp[intOf]<;>omega
   ·have hcd:(!decide ((M m).f0 - (M c).f0<0))=true:=by rw[Yw (by omega)];rfl
    have HL2:Aside0 (∀ y,a≤y→y<c+1→(M y).f0≤(M m).f0):=⟨fun y h1 h2=>by
     have:=le_le HLE.out h1 (show y≤c by omega) (by have:=HC2.out;omega)
     omega⟩
    clear HL hlc b1 b2
    rw[hcd]
    clear hcd
    go_wp2_with fail
    go_roundw
    case rel=>exact⟨c+1,j,by have:=HC2.out;omega,by have:=HC2.out;omega,hj,by go_num,rfl,HA2,HL2,HR,HG2⟩
    case measure=>have:=HC2.out;simp[intOf]<;>omega
  ·have ij:i=j:=by omega
   subst ij
   go_wp2_with fail
   have HB:Aside0 (Le (rotM M i m (m+1)) a (m+1)∧Stab (rotM M i m (m+1)) N):=⟨rot_one_hi HLE.out hi hj HL.out HR.out,rot_stab HST.out hj (by omega) (by omega) (fun x y h1 h2 h3 h4=>by
    have e:y=m:=by omega
    subst e;exact HR.out x h1 h2)⟩
   clear HL HR HLE HST
   obtain⟨wo,rfl⟩: ∃ wo:World,wo=wr:=⟨_,rfl⟩
   go_loopw [17] (fun vk wr=> ∃ k:Nat,i≤k∧k≤m∧vk= .int .i64 k∧(∃ K,Aside0 (Arr wr g N K)∧Aside0 (∀ x,K x=rotM M k m (m+1) x))∧Aside0 (Fr w wr g)) (fun vk _=>(intOf vk).toNat)
   case atStart=>exact⟨m,by omega,Nat.le_refl _,rfl,⟨M,HA1,⟨fun x=>(rot_none M (Nat.le_refl _) (by omega) (Or.inl rfl) x).symm⟩⟩,HG⟩
   case round=>
    clear HA1 HG
    obtain⟨k1,hk0,hk,rfl,⟨K,HA1,HK⟩,HG⟩:=hrel
    by_cases hlt2:i<k1
    ·obtain⟨k,rfl⟩: ∃ k,k1=k+1:=⟨k1 - 1,by omega⟩
     have c0:=HA1.out.cell0 (x:=k+1) (by omega)
     have c1:=HA1.out.cell1 (x:=k+1) (by omega)
     have d0:=HA1.out.cell0 (x:=k) (by omega)
     have d1:=HA1.out.cell1 (x:=k) (by omega)
     have f0:=HA1.out.free
     have hwp:IntKind.i64.wrap (k:Int)=(k:Int):=by rw[IntKind.wrap_i64];omega
     have jz:(k:Int)+1<(N:Int):=by omega
     have jz1:(k:Int)<(N:Int):=by omega
     have p0:(0:Int)≤(k:Int)+1:=by omega
     have e0:((k:Int)+1).toNat=k+1:=by omega
     have g1:(i:Int)<(k:Int)+1:=by omega
     have HK2:Aside0 (∀ x,upd (upd K (k+1) (K k)) k (K (k+1)) x=rotM M k m (m+1) x):=⟨fun x=>by
      rw[sw_put1];have e:K=rotM M (k+1) m (m+1):=funext HK.out;rw[e];exact sw_rot_hi M (by omega) x⟩
     obtain⟨s1,hs1⟩: ∃ s,K (k+1)=s:=⟨_,rfl⟩
     obtain⟨s2,hs2⟩: ∃ s,K k=s:=⟨_,rfl⟩
     rw[hs1] at c0 c1 HK2
     rw[hs2] at d0 d1 HK2
     clear HK hs1 hs2
     go_wp2
     go_region
     have HA3:Aside0 (Arr (((((wr.setCell ⟨g,(k+1) * 2,none⟩ (.int .i64 s2.f0)).setCell ⟨g,(k+1) * 2+1,none⟩ (.bool s2.f1)).setCell ⟨g,k * 2,none⟩ (.int .i64 s1.f0)).setCell ⟨g,k * 2+1,none⟩ (.bool s1.f1)).drew) g N (upd (upd K (k+1) s2) k s1)):=
      ⟨((HA1.out.put (by omega) s2).put (by omega) s1).drew⟩
     have HG3:=Ya (grow_drew (grow_set (grow_set (grow_set (grow_set HG.out ((k+1) * 2) (.int .i64 s2.f0)) ((k+1) * 2+1) (.bool s2.f1)) (k * 2) (.int .i64 s1.f0)) (k * 2+1) (.bool s1.f1)))
     clear c0 c1 d0 d1 f0 HA1 HG
     go_wp2
     go_roundw
     case rel=>exact⟨k,by omega,by omega,rfl,⟨_,HA3,HK2⟩,HG3⟩
     case measure=>simp[intOf]<;>omega
    ·have ek:k1=i:=by omega
     have HA3:Aside0 (Arr wr g N (rotM M i m (m+1))):=⟨HA1.out.congr fun x _=>by rw[HK.out,ek]⟩
     clear HA1 HK
     go_wp2
     (try simp only[Exit.inBlock,Exit.then]);refine bodyPost_ret (results_none rfl _ _ _) rfl ?_
     exact⟨rfl,⟨_,HA3.out,mix_wide (rot_mix M hj (by omega)) hi (Nat.le_refl _),HB.out.2,mix_small (rot_mix M hj (by omega)) (by omega) HSM.out,HB.out.1⟩,HG.out⟩
end H
namespace H
open P
attribute [local irreducible] wpQuiet
def Cross (K:Nat→S38) (a mid b:Nat):Prop:= ∀ x y,a≤x→x<mid→mid≤y→y<b→(K x).f0≤(K y).f0
def F1 (M K:Nat→S38) (N a s mid e b:Nat):Prop:=Mix M K a b∧Stab K N∧Small K N∧Le K a s∧Le K s mid∧Le K mid e∧Le K e b∧Cross K a mid b
def F2 (M K:Nat→S38) (N a mid e b:Nat):Prop:=Mix M K a b∧Stab K N∧Small K N∧Le K a mid∧Le K mid e∧Le K e b∧Cross K a mid b
theorem f1_rot {M:Nat→S38} {N a m b mid s e:Nat} (h1:Le M a m) (h2:Le M m b) (has:a≤s) (hsm:s≤m) (hme:m≤e) (heb:e≤b) (hsum:s+e=mid+m) (hsmid:s≤mid) (hmide:mid≤e)
  (hge:a<s→e<b→(M (s - 1)).f0≤(M e).f0) (hlt:s<m→m<e→(M (e - 1)).f0<(M s).f0) (hst:Stab M N) (hsmall:Small M N) (hb:b≤N):F1 M (rotM M s m e) N a s mid e b:=by
 obtain⟨p1,p2,p3,p4,p5,p6⟩:=sym_rot h1 h2 has hsm hme heb hsum hsmid hmide hge hlt hst hb
 have hx:=mix_wide (rot_mix M hsm hme) has heb
 exact⟨hx,p1,mix_small hx hb hsmall,p2,p3,p4,p5,p6⟩
theorem f2_rec {M K L:Nat→S38} {N a s mid e b:Nat} (h:F1 M K N a s mid e b) (hl:Sorted K L N a mid) (hm:mid≤e) (he:e≤b):F2 M L N a mid e b:=by
 obtain⟨h1,h2,h3,h4,h5,h6,h7,h8⟩:=h
 obtain⟨l1,l2,l3,l4⟩:=hl
 exact⟨mix_trans h1 (mix_wide l1 (Nat.le_refl _) (by omega)),l2,l3,l4,mix_le l1 (Or.inr (Nat.le_refl _)) h6,mix_le l1 (Or.inr hm) h7,mix_cross h8 (Or.inl l1)⟩
theorem f2_no {M K:Nat→S38} {N a s mid e b:Nat} (h:F1 M K N a s mid e b) (hs:s=a∨s=mid):F2 M K N a mid e b:=by
 obtain⟨h1,h2,h3,h4,h5,h6,h7,h8⟩:=h
 refine⟨h1,h2,h3,?_,h6,h7,h8⟩
 rcases hs with hs|hs
 ·subst hs;exact h5
 ·subst hs;exact h4
theorem f3_rec {M K L:Nat→S38} {N a mid e b:Nat} (h:F2 M K N a mid e b) (hl:Sorted K L N mid b) (ha:a≤mid):Sorted M L N a b:=by
 obtain⟨h1,h2,h3,h4,h6,h7,h8⟩:=h
 obtain⟨l1,l2,l3,l4⟩:=hl
 exact⟨mix_trans h1 (mix_wide l1 ha (Nat.le_refl _)),l2,l3,le_join (mix_le l1 (Or.inl (Nat.le_refl _)) h4) l4 (mix_cross h8 (Or.inr l1))⟩
theorem f3_no {M K:Nat→S38} {N a mid e b:Nat} (h:F2 M K N a mid e b) (hs:e=mid∨e=b):Sorted M K N a b:=by
 obtain⟨h1,h2,h3,h4,h6,h7,h8⟩:=h
 refine⟨h1,h2,h3,le_join h4 ?_ h8⟩
 rcases hs with hs|hs
 ·subst hs;exact h7
 ·subst hs;exact h6
structure Mid (a m b mid s0 r0 p:Nat):Prop where
 lo:2 * mid≤a+b
 hi:a+b<2 * mid+2
 am:a+2≤m
 mb:m+2≤b
 s0a:a≤s0
 r0m:r0≤m
 r0mid:r0≤mid
 s0b:mid+m≤s0+b
 sr:s0≤r0
 p:p+1=mid+m
 s0e:s0=a∨s0+b=mid+m
 r0e:r0=mid∨r0=m
theorem mid_f1 {M:Nat→S38} {N a m b mid s0 r0 p s e:Nat} (H:Mid a m b mid s0 r0 p) (h0:s0≤s) (h1:s≤r0) (hse:s+e=mid+m) (hL: ∀ c,s0≤c→c<s→(M c).f0≤(M (p - c)).f0) (hR: ∀ c,s≤c→c<r0→(M (p - c)).f0<(M c).f0)
  (l1:Le M a m) (l2:Le M m b) (hst:Stab M N) (hsm:Small M N) (hb:b≤N):F1 M (rotM M s m e) N a s mid e b:=by
 obtain⟨q1,q2,q3,q4,q5,q6,q7,q8,q9,q10,q11,q12⟩:=H
 refine f1_rot l1 l2 (by omega) (by omega) (by omega) (by omega) hse (by omega) (by omega) (fun k1 k2=> ?_) (fun k1 k2=> ?_) hst hsm hb
 ·have:=hL (s - 1) (by omega) (by omega)
  rwa [show p - (s - 1)=e by omega] at this
 ·have:=hR s (Nat.le_refl _) (by omega)
  rwa [show p - s=e - 1 by omega] at this
theorem mid_left {M:Nat→S38} {a m b mid s0 r0 p c:Nat} (H:Mid a m b mid s0 r0 p) (h0:s0≤c) (h1:c<r0) (l1:Le M a m) (l2:Le M m b) (h:(M c).f0≤(M (p - c)).f0): ∀ x,s0≤x→x<c+1→(M x).f0≤(M (p - x)).f0:=by
 obtain⟨q1,q2,q3,q4,q5,q6,q7,q8,q9,q10,q11,q12⟩:=H
 intro x k1 k2
 have k3:(M x).f0≤(M c).f0:=le_le l1 (by omega) (by omega) (by omega)
 have k4:(M (p - c)).f0≤(M (p - x)).f0:=le_le l2 (by omega) (by omega) (by omega)
 omega
theorem mid_right {M:Nat→S38} {a m b mid s0 r0 p c:Nat} (H:Mid a m b mid s0 r0 p) (h0:s0≤c) (h1:c<r0) (l1:Le M a m) (l2:Le M m b) (h:(M (p - c)).f0<(M c).f0): ∀ x,c≤x→x<r0→(M (p - x)).f0<(M x).f0:=by
 obtain⟨q1,q2,q3,q4,q5,q6,q7,q8,q9,q10,q11,q12⟩:=H
 intro x k1 k2
 have k3:(M c).f0≤(M x).f0:=le_le l1 (by omega) (by omega) (by omega)
 have k4:(M (p - x)).f0≤(M (p - c)).f0:=le_le l2 (by omega) (by omega) (by omega)
 omega
theorem mid_two {a m b mid p:Nat} (h1:(a+b) / 2=mid) (h2:a+2≤m) (h3:m+2≤b) (h4:p+1=mid+m):
  ∃ s0 r0:Nat,Aside0 (Mid a m b mid s0 r0 p)∧((mid<m∧s0+b=mid+m∧r0=mid)∨(¬ mid<m∧s0=a∧r0=m)):=by
 by_cases h:mid<m
 ·exact⟨mid+m - b,mid,⟨by omega,by omega,h2,h3,by omega,by omega,by omega,by omega,by omega,h4,Or.inr (by omega),Or.inl rfl⟩,Or.inl ⟨h,by omega,rfl⟩⟩
 ·exact⟨a,m,⟨by omega,by omega,h2,h3,by omega,by omega,by omega,by omega,by omega,h4,Or.inl rfl,Or.inr rfl⟩,Or.inr ⟨h,rfl,rfl⟩⟩
def SymOk (g N cap:Nat) (d:Nat):Prop:= ∀ (M:Nat→S38) (a m b:Nat) (w:World),b≤a+d→Arr w g N M→a<m→m<b→b≤N→Stab M N→Small M N→Le M a m→Le M m b→
  Calls Try.prog 170 #[.slice (some ⟨g,0,none⟩) N cap, .int .i64 (a:Int), .int .i64 (m:Int), .int .i64 (b:Int), .func (.func 144) #[] #[]] w fun e w'=>e= .returned (.tuple #[])∧(∃ K,Arr w' g N K∧Sorted M K N a b)∧Fr w w' g
set_option maxHeartbeats 4000000 in
set_option maxRecDepth 100000 in
theorem symMid_calls (g N cap d:Nat) (ih:SymOk g N cap d) (M:Nat→S38) (a m b:Nat) (w:World) (hd:b≤a+d+1) (h:Arr w g N M) (hN:N≤1000000) (ham:a+2≤m) (hmb:m+2≤b) (hb:b≤N) (hs:Stab M N) (hsm:Small M N) (hl1:Le M a m) (hl2:Le M m b):
  Calls Try.prog 170 #[.slice (some ⟨g,0,none⟩) N cap, .int .i64 (a:Int), .int .i64 (m:Int), .int .i64 (b:Int), .func (.func 144) #[] #[]] w fun e w'=>e= .returned (.tuple #[])∧(∃ K,Arr w' g N K∧Sorted M K N a b)∧Fr w w' g:=by
 obtain⟨mid,hmid⟩: ∃ mid,(a+b) / 2=mid:=⟨_,rfl⟩
 obtain⟨p,hp⟩: ∃ p,p+1=mid+m:=⟨mid+m - 1,by omega⟩
 obtain⟨s0,r0,HM,hor⟩:=mid_two hmid ham hmb hp
 have HA:=Ya h
 have HSM:=Ya hsm
 have HST:=Ya hs
 have HL1:=Ya hl1
 have HL2:=Ya hl2
 have IH:=Ya ih
 clear h hs hsm hl1 hl2 ih
 have hmz:((a:Int)+(b:Int)) / 2=(mid:Int):=by omega
 have hpz:(mid:Int)+(m:Int) - 1=(p:Int):=by omega
 have e1:(((b:Int) - (m:Int)) == 1)=false:=by rw[beq_eq_false_iff_ne];omega
 have e2:(((m:Int) - (a:Int)) == 1)=false:=by rw[beq_eq_false_iff_ne];omega
 have bp:p<2000000:=by omega
 have bmid:mid≤1000000:=by omega
 clear hmid
 go_enter Try.func170,Try.ntmps170
 rcases hor with ⟨hc,hs0,hr0⟩|⟨hc,hs0,hr0⟩
 ·have hcb:decide ((mid:Int)<(m:Int))=true:=Yv (by omega)
  have hsz:(mid:Int)+(m:Int) - (b:Int)=(s0:Int):=by omega
  go_wp2_with fail
  go_loopw [20,21] (fun vs vr wr=> ∃ s r:Nat,s0≤s∧s≤r∧r≤r0∧vs= .int .i64 s∧vr= .int .i64 r∧Aside0 (Arr wr g N M)∧Aside0 (∀ c,s0≤c→c<s→(M c).f0≤(M (p - c)).f0)∧Aside0 (∀ c,r≤c→c<r0→(M (p - c)).f0<(M c).f0)∧Aside0 (Fr w wr g)) (fun vs vr _=>(intOf vr).toNat - (intOf vs).toNat)
  case atStart=>exact⟨s0,r0,Nat.le_refl _,HM.out.sr,Nat.le_refl _,by first|rfl|rw[hs0],by rw[hr0],HA,⟨fun y h1 h2=>by omega⟩,⟨fun y h1 h2=>by omega⟩,⟨grow_refl _ _⟩⟩
  case round=>
   clear HA
   obtain⟨s,r,hsr0,hsr,hrr,rfl,rfl,HA1,HL,HR,HG⟩:=hrel
   by_cases hlt:s<r
   ·obtain⟨c,hcq⟩: ∃ c,(s+r) / 2=c:=⟨_,rfl⟩
    have hcz:((s:Int)+(r:Int)) / 2=(c:Int):=by omega
    have HB:Aside0 (s≤c∧c<r∧s0≤c∧c<r0∧c<N∧p - c<N∧c≤p):=by
     obtain⟨q1,q2,q3,q4,q5,q6,q7,q8,q9,q10,q11,q12⟩:=HM.out
     exact⟨by omega,by omega,by omega,by omega,by omega,by omega,by omega⟩
    have bc:c<N:=HB.out.2.2.2.2.1
    obtain⟨q,hq⟩: ∃ q,p - c=q:=⟨_,rfl⟩
    have hqz:(p:Int) - (c:Int)=(q:Int):=by have:=HB.out;omega
    have hwp:IntKind.i64.wrap (q:Int)=(q:Int):=by have:=HB.out;rw[IntKind.wrap_i64];omega
    have b1:=HSM.out c HB.out.2.2.2.2.1
    have b2:=HSM.out q (by have:=HB.out;omega)
    have c0:=HA1.out.q0 (x:=c) HB.out.2.2.2.2.1
    have c1:=HA1.out.q1 (x:=c) HB.out.2.2.2.2.1
    have d0:=HA1.out.q0 (x:=q) (by have:=HB.out;omega)
    have d1:=HA1.out.q1 (x:=q) (by have:=HB.out;omega)
    have z1:(c:Int)<(N:Int):=by have:=HB.out;omega
    have z2:(q:Int)<(N:Int):=by have:=HB.out;omega
    have HQ:=Ya hq
    clear hcq hq
    go_wp2_with fail
    refine wp_region_quiet_below (by kernel_rfl) (by kernel_rfl) ?_;(repeat(quiet_step ((go_at_call 144;exact calls_below_of (cmp_calls (M q) (M c) b2.1 b2.2 b1.1 b1.2 _)))));refine wpQuiet_nil ?_;intro wq hw';obtain⟨⟨wz,hbq⟩,hwq⟩:=hw';subst hwq
    have HA2:Aside0 (Arr wq g N M):=⟨HA1.out.below hbq⟩
    have HG2:Aside0 (Fr w wq g):=⟨grow_trans HG.out (grow_below hbq)⟩
    clear c0 c1 d0 d1 HA1 HG hbq hcz z1 z2 hqz
    by_cases hlc:(M q).f0<(M c).f0
    ·have hcd:(!decide ((M q).f0 - (M c).f0<0))=false:=by rw[Yv (by omega)];rfl
     have HR2:Aside0 (∀ y,c≤y→y<r0→(M (p - y)).f0<(M y).f0):=⟨mid_right HM.out HB.out.2.2.1 HB.out.2.2.2.1 HL1.out HL2.out (by rw[HQ.out];exact hlc)⟩
     clear HR hlc b1 b2
     rw[hcd]
     clear hcd
     go_wp2_with fail
     go_roundw
     case rel=>exact⟨s,c,hsr0,HB.out.1,by have:=HB.out;omega,rfl,rfl,HA2,HL,HR2,HG2⟩
     case measure=>have:=HB.out;simp[intOf]<;>omega
    ·have hcd:(!decide ((M q).f0 - (M c).f0<0))=true:=by rw[Yw (by omega)];rfl
     have HL2':Aside0 (∀ y,s0≤y→y<c+1→(M y).f0≤(M (p - y)).f0):=⟨mid_left HM.out HB.out.2.2.1 HB.out.2.2.2.1 HL1.out HL2.out (by rw[HQ.out];omega)⟩
     clear HL hlc b1 b2
     rw[hcd]
     clear hcd
     go_wp2_with fail
     go_roundw
     case rel=>exact⟨c+1,r,by have:=HB.out;omega,by have:=HB.out;omega,hrr,by go_num,rfl,HA2,HL2',HR,HG2⟩
     case measure=>have:=HB.out;simp[intOf]<;>omega
   ·have er:s=r:=by omega
    subst er
    obtain⟨e,he⟩: ∃ e,s+e=mid+m:=⟨mid+m - s,by have:=HM.out.r0m;omega⟩
    have hez:(mid:Int)+(m:Int) - (s:Int)=(e:Int):=by omega
    have HF:Aside0 (F1 M (rotM M s m e) N a s mid e b):=⟨mid_f1 HM.out hsr0 hrr he HL.out HR.out HL1.out HL2.out HST.out HSM.out hb⟩
    have b1:a≤s:=by have:=HM.out.s0a;omega
    have b2:s≤mid:=by have:=HM.out.r0mid;omega
    have b3:s≤m:=by have:=HM.out.r0m;omega
    have b4:m≤e:=by omega
    have b5:mid≤e:=by omega
    have b6:e≤b:=by have:=HM.out.s0b;omega
    have b7:a+2≤mid+1:=by have:=HM.out.hi;omega
    have b8:mid+2≤b:=by have:=HM.out.lo;omega
    clear HL HR HL1 HL2 HST HSM hlt he hsr hsr0 hrr
    by_cases c1:s<m
    ·have hb1:decide ((s:Int)<(m:Int))=true:=Yv (by omega)
     by_cases c2:m<e
     ·have hb2:decide ((m:Int)<(e:Int))=true:=Yv (by omega)
      go_wp2_with fail
      refine(rotate_calls g N cap M s m e _ _ HA1.out hN c1 c2 (by omega)).mono ?_
      rintro e3 w3 ⟨rfl,ha3,hg3⟩
      have HA3:=Ya ha3
      have HG3:Aside0 (Fr w w3 g):=⟨grow_trans HG.out hg3⟩
      clear ha3 hg3 HA1 HG
      obtain⟨K,hK⟩: ∃ K,K=rotM M s m e:=⟨_,rfl⟩
      rw[← hK] at HA3 HF
      clear hK
      by_cases c3:a<s
      ·have hb3:decide ((a:Int)<(s:Int))=true:=Yv (by omega)
       by_cases c4:s<mid
       ·have hb4:decide ((s:Int)<(mid:Int))=true:=Yv (by omega)
        go_wp2_with fail
        refine(IH.out K a s mid _ (by omega) HA3.out c3 c4 (by omega) HF.out.2.1 HF.out.2.2.1 HF.out.2.2.2.1 HF.out.2.2.2.2.1).mono ?_
        rintro e4 w4 ⟨rfl,⟨K2,ha4,hk4⟩,hg4⟩
        have HA4:=Ya ha4
        have HF2:Aside0 (F2 M K2 N a mid e b):=⟨f2_rec HF.out hk4 b5 b6⟩
        have HG4:Aside0 (Fr w w4 g):=⟨grow_trans HG3.out hg4⟩
        clear ha4 hk4 hg4 HA3 HF HG3
        by_cases c5:mid<e
        ·have hb5:decide ((mid:Int)<(e:Int))=true:=Yv (by omega)
         by_cases c6:e<b
         ·have hb6:decide ((e:Int)<(b:Int))=true:=Yv (by omega)
          go_wp2_with fail
          refine(IH.out K2 mid e b _ (by omega) HA4.out c5 c6 hb HF2.out.2.1 HF2.out.2.2.1 HF2.out.2.2.2.2.1 HF2.out.2.2.2.2.2.1).mono ?_
          rintro e5 w5 ⟨rfl,⟨K3,ha5,hk5⟩,hg5⟩
          have HA5:=Ya ha5
          have HS5:Aside0 (Sorted M K3 N a b):=⟨f3_rec HF2.out hk5 (by omega)⟩
          have HG5:Aside0 (Fr w w5 g):=⟨grow_trans HG4.out hg5⟩
          clear ha5 hk5 hg5 HA4 HF2 HG4
          go_wp2_with fail
          go_end0
          exact⟨rfl,⟨K3,HA5.out,HS5.out⟩,HG5.out⟩
         ·have hb6:decide ((e:Int)<(b:Int))=false:=Yw (by omega)
          have HS5:Aside0 (Sorted M K2 N a b):=⟨f3_no HF2.out (Or.inr (by omega))⟩
          clear HF2
          go_wp2_with fail
          go_end0
          exact⟨rfl,⟨K2,HA4.out,HS5.out⟩,HG4.out⟩
        ·have hb5:decide ((mid:Int)<(e:Int))=false:=Yw (by omega)
         have HS5:Aside0 (Sorted M K2 N a b):=⟨f3_no HF2.out (Or.inl (by omega))⟩
         clear HF2
         go_wp2_with fail
         go_end0
         exact⟨rfl,⟨K2,HA4.out,HS5.out⟩,HG4.out⟩
       ·have hb4:decide ((s:Int)<(mid:Int))=false:=Yw (by omega)
        have HF2:Aside0 (F2 M K N a mid e b):=⟨f2_no HF.out (Or.inr (by omega))⟩
        have HA4:=HA3
        have HG4:=HG3
        obtain⟨K2,rfl⟩: ∃ K2,K2=K:=⟨K,rfl⟩
        clear HF HA3 HG3
        by_cases c5:mid<e
        ·have hb5:decide ((mid:Int)<(e:Int))=true:=Yv (by omega)
         by_cases c6:e<b
         ·have hb6:decide ((e:Int)<(b:Int))=true:=Yv (by omega)
          go_wp2_with fail
          refine(IH.out K2 mid e b _ (by omega) HA4.out c5 c6 hb HF2.out.2.1 HF2.out.2.2.1 HF2.out.2.2.2.2.1 HF2.out.2.2.2.2.2.1).mono ?_
          rintro e5 w5 ⟨rfl,⟨K3,ha5,hk5⟩,hg5⟩
          have HA5:=Ya ha5
          have HS5:Aside0 (Sorted M K3 N a b):=⟨f3_rec HF2.out hk5 (by omega)⟩
          have HG5:Aside0 (Fr w w5 g):=⟨grow_trans HG4.out hg5⟩
          clear ha5 hk5 hg5 HA4 HF2 HG4
          go_wp2_with fail
          go_end0
          exact⟨rfl,⟨K3,HA5.out,HS5.out⟩,HG5.out⟩
         ·have hb6:decide ((e:Int)<(b:Int))=false:=Yw (by omega)
          have HS5:Aside0 (Sorted M K2 N a b):=⟨f3_no HF2.out (Or.inr (by omega))⟩
          clear HF2
          go_wp2_with fail
          go_end0
          exact⟨rfl,⟨K2,HA4.out,HS5.out⟩,HG4.out⟩
        ·have hb5:decide ((mid:Int)<(e:Int))=false:=Yw (by omega)
         have HS5:Aside0 (Sorted M K2 N a b):=⟨f3_no HF2.out (Or.inl (by omega))⟩
         clear HF2
         go_wp2_with fail
         go_end0
         exact⟨rfl,⟨K2,HA4.out,HS5.out⟩,HG4.out⟩
      ·have hb3:decide ((a:Int)<(s:Int))=false:=Yw (by omega)
       have HF2:Aside0 (F2 M K N a mid e b):=⟨f2_no HF.out (Or.inl (by omega))⟩
       have HA4:=HA3
       have HG4:=HG3
       obtain⟨K2,rfl⟩: ∃ K2,K2=K:=⟨K,rfl⟩
       clear HF HA3 HG3
       by_cases c5:mid<e
       ·have hb5:decide ((mid:Int)<(e:Int))=true:=Yv (by omega)
        by_cases c6:e<b
        ·have hb6:decide ((e:Int)<(b:Int))=true:=Yv (by omega)
         go_wp2_with fail
         refine(IH.out K2 mid e b _ (by omega) HA4.out c5 c6 hb HF2.out.2.1 HF2.out.2.2.1 HF2.out.2.2.2.2.1 HF2.out.2.2.2.2.2.1).mono ?_
         rintro e5 w5 ⟨rfl,⟨K3,ha5,hk5⟩,hg5⟩
         have HA5:=Ya ha5
         have HS5:Aside0 (Sorted M K3 N a b):=⟨f3_rec HF2.out hk5 (by omega)⟩
         have HG5:Aside0 (Fr w w5 g):=⟨grow_trans HG4.out hg5⟩
         clear ha5 hk5 hg5 HA4 HF2 HG4
         go_wp2_with fail
         go_end0
         exact⟨rfl,⟨K3,HA5.out,HS5.out⟩,HG5.out⟩
        ·have hb6:decide ((e:Int)<(b:Int))=false:=Yw (by omega)
         have HS5:Aside0 (Sorted M K2 N a b):=⟨f3_no HF2.out (Or.inr (by omega))⟩
         clear HF2
         go_wp2_with fail
         go_end0
         exact⟨rfl,⟨K2,HA4.out,HS5.out⟩,HG4.out⟩
       ·have hb5:decide ((mid:Int)<(e:Int))=false:=Yw (by omega)
        have HS5:Aside0 (Sorted M K2 N a b):=⟨f3_no HF2.out (Or.inl (by omega))⟩
        clear HF2
        go_wp2_with fail
        go_end0
        exact⟨rfl,⟨K2,HA4.out,HS5.out⟩,HG4.out⟩
     ·have hb2:decide ((m:Int)<(e:Int))=false:=Yw (by omega)
      have HA3:Aside0 (Arr wr g N (rotM M s m e)):=⟨HA1.out.congr fun x _=>rot_none M (by omega) (by omega) (Or.inr (by omega)) x⟩
      have HG3:=HG
      clear HA1 HG
      obtain⟨K,hK⟩: ∃ K,K=rotM M s m e:=⟨_,rfl⟩
      rw[← hK] at HA3 HF
      clear hK
      by_cases c3:a<s
      ·have hb3:decide ((a:Int)<(s:Int))=true:=Yv (by omega)
       by_cases c4:s<mid
       ·have hb4:decide ((s:Int)<(mid:Int))=true:=Yv (by omega)
        go_wp2_with fail
        refine(IH.out K a s mid _ (by omega) HA3.out c3 c4 (by omega) HF.out.2.1 HF.out.2.2.1 HF.out.2.2.2.1 HF.out.2.2.2.2.1).mono ?_
        rintro e4 w4 ⟨rfl,⟨K2,ha4,hk4⟩,hg4⟩
        have HA4:=Ya ha4
        have HF2:Aside0 (F2 M K2 N a mid e b):=⟨f2_rec HF.out hk4 b5 b6⟩
        have HG4:Aside0 (Fr w w4 g):=⟨grow_trans HG3.out hg4⟩
        clear ha4 hk4 hg4 HA3 HF HG3
        by_cases c5:mid<e
        ·have hb5:decide ((mid:Int)<(e:Int))=true:=Yv (by omega)
         by_cases c6:e<b
         ·have hb6:decide ((e:Int)<(b:Int))=true:=Yv (by omega)
          go_wp2_with fail
          refine(IH.out K2 mid e b _ (by omega) HA4.out c5 c6 hb HF2.out.2.1 HF2.out.2.2.1 HF2.out.2.2.2.2.1 HF2.out.2.2.2.2.2.1).mono ?_
          rintro e5 w5 ⟨rfl,⟨K3,ha5,hk5⟩,hg5⟩
          have HA5:=Ya ha5
          have HS5:Aside0 (Sorted M K3 N a b):=⟨f3_rec HF2.out hk5 (by omega)⟩
          have HG5:Aside0 (Fr w w5 g):=⟨grow_trans HG4.out hg5⟩
          clear ha5 hk5 hg5 HA4 HF2 HG4
          go_wp2_with fail
          go_end0
          exact⟨rfl,⟨K3,HA5.out,HS5.out⟩,HG5.out⟩
         ·have hb6:decide ((e:Int)<(b:Int))=false:=Yw (by omega)
          have HS5:Aside0 (Sorted M K2 N a b):=⟨f3_no HF2.out (Or.inr (by omega))⟩
          clear HF2
          go_wp2_with fail
          go_end0
          exact⟨rfl,⟨K2,HA4.out,HS5.out⟩,HG4.out⟩
        ·have hb5:decide ((mid:Int)<(e:Int))=false:=Yw (by omega)
         have HS5:Aside0 (Sorted M K2 N a b):=⟨f3_no HF2.out (Or.inl (by omega))⟩
         clear HF2
         go_wp2_with fail
         go_end0
         exact⟨rfl,⟨K2,HA4.out,HS5.out⟩,HG4.out⟩
       ·have hb4:decide ((s:Int)<(mid:Int))=false:=Yw (by omega)
        have HF2:Aside0 (F2 M K N a mid e b):=⟨f2_no HF.out (Or.inr (by omega))⟩
        have HA4:=HA3
        have HG4:=HG3
        obtain⟨K2,rfl⟩: ∃ K2,K2=K:=⟨K,rfl⟩
        clear HF HA3 HG3
        by_cases c5:mid<e
        ·have hb5:decide ((mid:Int)<(e:Int))=true:=Yv (by omega)
         by_cases c6:e<b
         ·have hb6:decide ((e:Int)<(b:Int))=true:=Yv (by omega)
          go_wp2_with fail
          refine(IH.out K2 mid e b _ (by omega) HA4.out c5 c6 hb HF2.out.2.1 HF2.out.2.2.1 HF2.out.2.2.2.2.1 HF2.out.2.2.2.2.2.1).mono ?_
          rintro e5 w5 ⟨rfl,⟨K3,ha5,hk5⟩,hg5⟩
          have HA5:=Ya ha5
          have HS5:Aside0 (Sorted M K3 N a b):=⟨f3_rec HF2.out hk5 (by omega)⟩
          have HG5:Aside0 (Fr w w5 g):=⟨grow_trans HG4.out hg5⟩
          clear ha5 hk5 hg5 HA4 HF2 HG4
          go_wp2_with fail
          go_end0
          exact⟨rfl,⟨K3,HA5.out,HS5.out⟩,HG5.out⟩
         ·have hb6:decide ((e:Int)<(b:Int))=false:=Yw (by omega)
          have HS5:Aside0 (Sorted M K2 N a b):=⟨f3_no HF2.out (Or.inr (by omega))⟩
          clear HF2
          go_wp2_with fail
          go_end0
          exact⟨rfl,⟨K2,HA4.out,HS5.out⟩,HG4.out⟩
        ·have hb5:decide ((mid:Int)<(e:Int))=false:=Yw (by omega)
         have HS5:Aside0 (Sorted M K2 N a b):=⟨f3_no HF2.out (Or.inl (by omega))⟩
         clear HF2
         go_wp2_with fail
         go_end0
         exact⟨rfl,⟨K2,HA4.out,HS5.out⟩,HG4.out⟩
      ·have hb3:decide ((a:Int)<(s:Int))=false:=Yw (by omega)
       have HF2:Aside0 (F2 M K N a mid e b):=⟨f2_no HF.out (Or.inl (by omega))⟩
       have HA4:=HA3
       have HG4:=HG3
       obtain⟨K2,rfl⟩: ∃ K2,K2=K:=⟨K,rfl⟩
       clear HF HA3 HG3
       by_cases c5:mid<e
       ·have hb5:decide ((mid:Int)<(e:Int))=true:=Yv (by omega)
        by_cases c6:e<b
        ·have hb6:decide ((e:Int)<(b:Int))=true:=Yv (by omega)
         go_wp2_with fail
         refine(IH.out K2 mid e b _ (by omega) HA4.out c5 c6 hb HF2.out.2.1 HF2.out.2.2.1 HF2.out.2.2.2.2.1 HF2.out.2.2.2.2.2.1).mono ?_
         rintro e5 w5 ⟨rfl,⟨K3,ha5,hk5⟩,hg5⟩
         have HA5:=Ya ha5
         have HS5:Aside0 (Sorted M K3 N a b):=⟨f3_rec HF2.out hk5 (by omega)⟩
         have HG5:Aside0 (Fr w w5 g):=⟨grow_trans HG4.out hg5⟩
         clear ha5 hk5 hg5 HA4 HF2 HG4
         go_wp2_with fail
         go_end0
         exact⟨rfl,⟨K3,HA5.out,HS5.out⟩,HG5.out⟩
        ·have hb6:decide ((e:Int)<(b:Int))=false:=Yw (by omega)
         have HS5:Aside0 (Sorted M K2 N a b):=⟨f3_no HF2.out (Or.inr (by omega))⟩
         clear HF2
         go_wp2_with fail
         go_end0
         exact⟨rfl,⟨K2,HA4.out,HS5.out⟩,HG4.out⟩
       ·have hb5:decide ((mid:Int)<(e:Int))=false:=Yw (by omega)
        have HS5:Aside0 (Sorted M K2 N a b):=⟨f3_no HF2.out (Or.inl (by omega))⟩
        clear HF2
        go_wp2_with fail
        go_end0
        exact⟨rfl,⟨K2,HA4.out,HS5.out⟩,HG4.out⟩
    ·have hb1:decide ((s:Int)<(m:Int))=false:=Yw (by omega)
     have HA3:Aside0 (Arr wr g N (rotM M s m e)):=⟨HA1.out.congr fun x _=>rot_none M (by omega) (by omega) (Or.inl (by omega)) x⟩
     have HG3:=HG
     clear HA1 HG
     obtain⟨K,hK⟩: ∃ K,K=rotM M s m e:=⟨_,rfl⟩
     rw[← hK] at HA3 HF
     clear hK
     by_cases c3:a<s
     ·have hb3:decide ((a:Int)<(s:Int))=true:=Yv (by omega)
      by_cases c4:s<mid
      ·have hb4:decide ((s:Int)<(mid:Int))=true:=Yv (by omega)
       go_wp2_with fail
       refine(IH.out K a s mid _ (by omega) HA3.out c3 c4 (by omega) HF.out.2.1 HF.out.2.2.1 HF.out.2.2.2.1 HF.out.2.2.2.2.1).mono ?_
       rintro e4 w4 ⟨rfl,⟨K2,ha4,hk4⟩,hg4⟩
       have HA4:=Ya ha4
       have HF2:Aside0 (F2 M K2 N a mid e b):=⟨f2_rec HF.out hk4 b5 b6⟩
       have HG4:Aside0 (Fr w w4 g):=⟨grow_trans HG3.out hg4⟩
       clear ha4 hk4 hg4 HA3 HF HG3
       by_cases c5:mid<e
       ·have hb5:decide ((mid:Int)<(e:Int))=true:=Yv (by omega)
        by_cases c6:e<b
        ·have hb6:decide ((e:Int)<(b:Int))=true:=Yv (by omega)
         go_wp2_with fail
         refine(IH.out K2 mid e b _ (by omega) HA4.out c5 c6 hb HF2.out.2.1 HF2.out.2.2.1 HF2.out.2.2.2.2.1 HF2.out.2.2.2.2.2.1).mono ?_
         rintro e5 w5 ⟨rfl,⟨K3,ha5,hk5⟩,hg5⟩
         have HA5:=Ya ha5
         have HS5:Aside0 (Sorted M K3 N a b):=⟨f3_rec HF2.out hk5 (by omega)⟩
         have HG5:Aside0 (Fr w w5 g):=⟨grow_trans HG4.out hg5⟩
         clear ha5 hk5 hg5 HA4 HF2 HG4
         go_wp2_with fail
         go_end0
         exact⟨rfl,⟨K3,HA5.out,HS5.out⟩,HG5.out⟩
        ·have hb6:decide ((e:Int)<(b:Int))=false:=Yw (by omega)
         have HS5:Aside0 (Sorted M K2 N a b):=⟨f3_no HF2.out (Or.inr (by omega))⟩
         clear HF2
         go_wp2_with fail
         go_end0
         exact⟨rfl,⟨K2,HA4.out,HS5.out⟩,HG4.out⟩
       ·have hb5:decide ((mid:Int)<(e:Int))=false:=Yw (by omega)
        have HS5:Aside0 (Sorted M K2 N a b):=⟨f3_no HF2.out (Or.inl (by omega))⟩
        clear HF2
        go_wp2_with fail
        go_end0
        exact⟨rfl,⟨K2,HA4.out,HS5.out⟩,HG4.out⟩
      ·have hb4:decide ((s:Int)<(mid:Int))=false:=Yw (by omega)
       have HF2:Aside0 (F2 M K N a mid e b):=⟨f2_no HF.out (Or.inr (by omega))⟩
       have HA4:=HA3
       have HG4:=HG3
       obtain⟨K2,rfl⟩: ∃ K2,K2=K:=⟨K,rfl⟩
       clear HF HA3 HG3
       by_cases c5:mid<e
       ·have hb5:decide ((mid:Int)<(e:Int))=true:=Yv (by omega)
        by_cases c6:e<b
        ·have hb6:decide ((e:Int)<(b:Int))=true:=Yv (by omega)
         go_wp2_with fail
         refine(IH.out K2 mid e b _ (by omega) HA4.out c5 c6 hb HF2.out.2.1 HF2.out.2.2.1 HF2.out.2.2.2.2.1 HF2.out.2.2.2.2.2.1).mono ?_
         rintro e5 w5 ⟨rfl,⟨K3,ha5,hk5⟩,hg5⟩
         have HA5:=Ya ha5
         have HS5:Aside0 (Sorted M K3 N a b):=⟨f3_rec HF2.out hk5 (by omega)⟩
         have HG5:Aside0 (Fr w w5 g):=⟨grow_trans HG4.out hg5⟩
         clear ha5 hk5 hg5 HA4 HF2 HG4
         go_wp2_with fail
         go_end0
         exact⟨rfl,⟨K3,HA5.out,HS5.out⟩,HG5.out⟩
        ·have hb6:decide ((e:Int)<(b:Int))=false:=Yw (by omega)
         have HS5:Aside0 (Sorted M K2 N a b):=⟨f3_no HF2.out (Or.inr (by omega))⟩
         clear HF2
         go_wp2_with fail
         go_end0
         exact⟨rfl,⟨K2,HA4.out,HS5.out⟩,HG4.out⟩
       ·have hb5:decide ((mid:Int)<(e:Int))=false:=Yw (by omega)
        have HS5:Aside0 (Sorted M K2 N a b):=⟨f3_no HF2.out (Or.inl (by omega))⟩
        clear HF2
        go_wp2_with fail
        go_end0
        exact⟨rfl,⟨K2,HA4.out,HS5.out⟩,HG4.out⟩
     ·have hb3:decide ((a:Int)<(s:Int))=false:=Yw (by omega)
      have HF2:Aside0 (F2 M K N a mid e b):=⟨f2_no HF.out (Or.inl (by omega))⟩
      have HA4:=HA3
      have HG4:=HG3
      obtain⟨K2,rfl⟩: ∃ K2,K2=K:=⟨K,rfl⟩
      clear HF HA3 HG3
      by_cases c5:mid<e
      ·have hb5:decide ((mid:Int)<(e:Int))=true:=Yv (by omega)
       by_cases c6:e<b
       ·have hb6:decide ((e:Int)<(b:Int))=true:=Yv (by omega)
        go_wp2_with fail
        refine(IH.out K2 mid e b _ (by omega) HA4.out c5 c6 hb HF2.out.2.1 HF2.out.2.2.1 HF2.out.2.2.2.2.1 HF2.out.2.2.2.2.2.1).mono ?_
        rintro e5 w5 ⟨rfl,⟨K3,ha5,hk5⟩,hg5⟩
        have HA5:=Ya ha5
        have HS5:Aside0 (Sorted M K3 N a b):=⟨f3_rec HF2.out hk5 (by omega)⟩
        have HG5:Aside0 (Fr w w5 g):=⟨grow_trans HG4.out hg5⟩
        clear ha5 hk5 hg5 HA4 HF2 HG4
        go_wp2_with fail
        go_end0
        exact⟨rfl,⟨K3,HA5.out,HS5.out⟩,HG5.out⟩
       ·have hb6:decide ((e:Int)<(b:Int))=false:=Yw (by omega)
        have HS5:Aside0 (Sorted M K2 N a b):=⟨f3_no HF2.out (Or.inr (by omega))⟩
        clear HF2
        go_wp2_with fail
        go_end0
        exact⟨rfl,⟨K2,HA4.out,HS5.out⟩,HG4.out⟩
      ·have hb5:decide ((mid:Int)<(e:Int))=false:=Yw (by omega)
       have HS5:Aside0 (Sorted M K2 N a b):=⟨f3_no HF2.out (Or.inl (by omega))⟩
       clear HF2
       go_wp2_with fail
       go_end0
       exact⟨rfl,⟨K2,HA4.out,HS5.out⟩,HG4.out⟩
 ·have hcb:decide ((mid:Int)<(m:Int))=false:=Yw (by omega)
  go_wp2_with fail
  go_loopw [20,21] (fun vs vr wr=> ∃ s r:Nat,s0≤s∧s≤r∧r≤r0∧vs= .int .i64 s∧vr= .int .i64 r∧Aside0 (Arr wr g N M)∧Aside0 (∀ c,s0≤c→c<s→(M c).f0≤(M (p - c)).f0)∧Aside0 (∀ c,r≤c→c<r0→(M (p - c)).f0<(M c).f0)∧Aside0 (Fr w wr g)) (fun vs vr _=>(intOf vr).toNat - (intOf vs).toNat)
  case atStart=>exact⟨s0,r0,Nat.le_refl _,HM.out.sr,Nat.le_refl _,by first|rfl|rw[hs0],by rw[hr0],HA,⟨fun y h1 h2=>by omega⟩,⟨fun y h1 h2=>by omega⟩,⟨grow_refl _ _⟩⟩
  case round=>
   clear HA
   obtain⟨s,r,hsr0,hsr,hrr,rfl,rfl,HA1,HL,HR,HG⟩:=hrel
   by_cases hlt:s<r
   ·obtain⟨c,hcq⟩: ∃ c,(s+r) / 2=c:=⟨_,rfl⟩
    have hcz:((s:Int)+(r:Int)) / 2=(c:Int):=by omega
    have HB:Aside0 (s≤c∧c<r∧s0≤c∧c<r0∧c<N∧p - c<N∧c≤p):=by
     obtain⟨q1,q2,q3,q4,q5,q6,q7,q8,q9,q10,q11,q12⟩:=HM.out
     exact⟨by omega,by omega,by omega,by omega,by omega,by omega,by omega⟩
    have bc:c<N:=HB.out.2.2.2.2.1
    obtain⟨q,hq⟩: ∃ q,p - c=q:=⟨_,rfl⟩
    have hqz:(p:Int) - (c:Int)=(q:Int):=by have:=HB.out;omega
    have hwp:IntKind.i64.wrap (q:Int)=(q:Int):=by have:=HB.out;rw[IntKind.wrap_i64];omega
    have b1:=HSM.out c HB.out.2.2.2.2.1
    have b2:=HSM.out q (by have:=HB.out;omega)
    have c0:=HA1.out.q0 (x:=c) HB.out.2.2.2.2.1
    have c1:=HA1.out.q1 (x:=c) HB.out.2.2.2.2.1
    have d0:=HA1.out.q0 (x:=q) (by have:=HB.out;omega)
    have d1:=HA1.out.q1 (x:=q) (by have:=HB.out;omega)
    have z1:(c:Int)<(N:Int):=by have:=HB.out;omega
    have z2:(q:Int)<(N:Int):=by have:=HB.out;omega
    have HQ:=Ya hq
    clear hcq hq
    go_wp2_with fail
    refine wp_region_quiet_below (by kernel_rfl) (by kernel_rfl) ?_;(repeat(quiet_step ((go_at_call 144;exact calls_below_of (cmp_calls (M q) (M c) b2.1 b2.2 b1.1 b1.2 _)))));refine wpQuiet_nil ?_;intro wq hw';obtain⟨⟨wz,hbq⟩,hwq⟩:=hw';subst hwq
    have HA2:Aside0 (Arr wq g N M):=⟨HA1.out.below hbq⟩
    have HG2:Aside0 (Fr w wq g):=⟨grow_trans HG.out (grow_below hbq)⟩
    clear c0 c1 d0 d1 HA1 HG hbq hcz z1 z2 hqz
    by_cases hlc:(M q).f0<(M c).f0
    ·have hcd:(!decide ((M q).f0 - (M c).f0<0))=false:=by rw[Yv (by omega)];rfl
     have HR2:Aside0 (∀ y,c≤y→y<r0→(M (p - y)).f0<(M y).f0):=⟨mid_right HM.out HB.out.2.2.1 HB.out.2.2.2.1 HL1.out HL2.out (by rw[HQ.out];exact hlc)⟩
     clear HR hlc b1 b2
     rw[hcd]
     clear hcd
     go_wp2_with fail
     go_roundw
     case rel=>exact⟨s,c,hsr0,HB.out.1,by have:=HB.out;omega,rfl,rfl,HA2,HL,HR2,HG2⟩
     case measure=>have:=HB.out;simp[intOf]<;>omega
    ·have hcd:(!decide ((M q).f0 - (M c).f0<0))=true:=by rw[Yw (by omega)];rfl
     have HL2':Aside0 (∀ y,s0≤y→y<c+1→(M y).f0≤(M (p - y)).f0):=⟨mid_left HM.out HB.out.2.2.1 HB.out.2.2.2.1 HL1.out HL2.out (by rw[HQ.out];omega)⟩
     clear HL hlc b1 b2
     rw[hcd]
     clear hcd
     go_wp2_with fail
     go_roundw
     case rel=>exact⟨c+1,r,by have:=HB.out;omega,by have:=HB.out;omega,hrr,by go_num,rfl,HA2,HL2',HR,HG2⟩
     case measure=>have:=HB.out;simp[intOf]<;>omega
   ·have er:s=r:=by omega
    subst er
    obtain⟨e,he⟩: ∃ e,s+e=mid+m:=⟨mid+m - s,by have:=HM.out.r0m;omega⟩
    have hez:(mid:Int)+(m:Int) - (s:Int)=(e:Int):=by omega
    have HF:Aside0 (F1 M (rotM M s m e) N a s mid e b):=⟨mid_f1 HM.out hsr0 hrr he HL.out HR.out HL1.out HL2.out HST.out HSM.out hb⟩
    have b1:a≤s:=by have:=HM.out.s0a;omega
    have b2:s≤mid:=by have:=HM.out.r0mid;omega
    have b3:s≤m:=by have:=HM.out.r0m;omega
    have b4:m≤e:=by omega
    have b5:mid≤e:=by omega
    have b6:e≤b:=by have:=HM.out.s0b;omega
    have b7:a+2≤mid+1:=by have:=HM.out.hi;omega
    have b8:mid+2≤b:=by have:=HM.out.lo;omega
    clear HL HR HL1 HL2 HST HSM hlt he hsr hsr0 hrr
    by_cases c1:s<m
    ·have hb1:decide ((s:Int)<(m:Int))=true:=Yv (by omega)
     by_cases c2:m<e
     ·have hb2:decide ((m:Int)<(e:Int))=true:=Yv (by omega)
      go_wp2_with fail
      refine(rotate_calls g N cap M s m e _ _ HA1.out hN c1 c2 (by omega)).mono ?_
      rintro e3 w3 ⟨rfl,ha3,hg3⟩
      have HA3:=Ya ha3
      have HG3:Aside0 (Fr w w3 g):=⟨grow_trans HG.out hg3⟩
      clear ha3 hg3 HA1 HG
      obtain⟨K,hK⟩: ∃ K,K=rotM M s m e:=⟨_,rfl⟩
      rw[← hK] at HA3 HF
      clear hK
      by_cases c3:a<s
      ·have hb3:decide ((a:Int)<(s:Int))=true:=Yv (by omega)
       by_cases c4:s<mid
       ·have hb4:decide ((s:Int)<(mid:Int))=true:=Yv (by omega)
        go_wp2_with fail
        refine(IH.out K a s mid _ (by omega) HA3.out c3 c4 (by omega) HF.out.2.1 HF.out.2.2.1 HF.out.2.2.2.1 HF.out.2.2.2.2.1).mono ?_
        rintro e4 w4 ⟨rfl,⟨K2,ha4,hk4⟩,hg4⟩
        have HA4:=Ya ha4
        have HF2:Aside0 (F2 M K2 N a mid e b):=⟨f2_rec HF.out hk4 b5 b6⟩
        have HG4:Aside0 (Fr w w4 g):=⟨grow_trans HG3.out hg4⟩
        clear ha4 hk4 hg4 HA3 HF HG3
        by_cases c5:mid<e
        ·have hb5:decide ((mid:Int)<(e:Int))=true:=Yv (by omega)
         by_cases c6:e<b
         ·have hb6:decide ((e:Int)<(b:Int))=true:=Yv (by omega)
          go_wp2_with fail
          refine(IH.out K2 mid e b _ (by omega) HA4.out c5 c6 hb HF2.out.2.1 HF2.out.2.2.1 HF2.out.2.2.2.2.1 HF2.out.2.2.2.2.2.1).mono ?_
          rintro e5 w5 ⟨rfl,⟨K3,ha5,hk5⟩,hg5⟩
          have HA5:=Ya ha5
          have HS5:Aside0 (Sorted M K3 N a b):=⟨f3_rec HF2.out hk5 (by omega)⟩
          have HG5:Aside0 (Fr w w5 g):=⟨grow_trans HG4.out hg5⟩
          clear ha5 hk5 hg5 HA4 HF2 HG4
          go_wp2_with fail
          go_end0
          exact⟨rfl,⟨K3,HA5.out,HS5.out⟩,HG5.out⟩
         ·have hb6:decide ((e:Int)<(b:Int))=false:=Yw (by omega)
          have HS5:Aside0 (Sorted M K2 N a b):=⟨f3_no HF2.out (Or.inr (by omega))⟩
          clear HF2
          go_wp2_with fail
          go_end0
          exact⟨rfl,⟨K2,HA4.out,HS5.out⟩,HG4.out⟩
        ·have hb5:decide ((mid:Int)<(e:Int))=false:=Yw (by omega)
         have HS5:Aside0 (Sorted M K2 N a b):=⟨f3_no HF2.out (Or.inl (by omega))⟩
         clear HF2
         go_wp2_with fail
         go_end0
         exact⟨rfl,⟨K2,HA4.out,HS5.out⟩,HG4.out⟩
       ·have hb4:decide ((s:Int)<(mid:Int))=false:=Yw (by omega)
        have HF2:Aside0 (F2 M K N a mid e b):=⟨f2_no HF.out (Or.inr (by omega))⟩
        have HA4:=HA3
        have HG4:=HG3
        obtain⟨K2,rfl⟩: ∃ K2,K2=K:=⟨K,rfl⟩
        clear HF HA3 HG3
        by_cases c5:mid<e
        ·have hb5:decide ((mid:Int)<(e:Int))=true:=Yv (by omega)
         by_cases c6:e<b
         ·have hb6:decide ((e:Int)<(b:Int))=true:=Yv (by omega)
          go_wp2_with fail
          refine(IH.out K2 mid e b _ (by omega) HA4.out c5 c6 hb HF2.out.2.1 HF2.out.2.2.1 HF2.out.2.2.2.2.1 HF2.out.2.2.2.2.2.1).mono ?_
          rintro e5 w5 ⟨rfl,⟨K3,ha5,hk5⟩,hg5⟩
          have HA5:=Ya ha5
          have HS5:Aside0 (Sorted M K3 N a b):=⟨f3_rec HF2.out hk5 (by omega)⟩
          have HG5:Aside0 (Fr w w5 g):=⟨grow_trans HG4.out hg5⟩
          clear ha5 hk5 hg5 HA4 HF2 HG4
          go_wp2_with fail
          go_end0
          exact⟨rfl,⟨K3,HA5.out,HS5.out⟩,HG5.out⟩
         ·have hb6:decide ((e:Int)<(b:Int))=false:=Yw (by omega)
          have HS5:Aside0 (Sorted M K2 N a b):=⟨f3_no HF2.out (Or.inr (by omega))⟩
          clear HF2
          go_wp2_with fail
          go_end0
          exact⟨rfl,⟨K2,HA4.out,HS5.out⟩,HG4.out⟩
        ·have hb5:decide ((mid:Int)<(e:Int))=false:=Yw (by omega)
         have HS5:Aside0 (Sorted M K2 N a b):=⟨f3_no HF2.out (Or.inl (by omega))⟩
         clear HF2
         go_wp2_with fail
         go_end0
         exact⟨rfl,⟨K2,HA4.out,HS5.out⟩,HG4.out⟩
      ·have hb3:decide ((a:Int)<(s:Int))=false:=Yw (by omega)
       have HF2:Aside0 (F2 M K N a mid e b):=⟨f2_no HF.out (Or.inl (by omega))⟩
       have HA4:=HA3
       have HG4:=HG3
       obtain⟨K2,rfl⟩: ∃ K2,K2=K:=⟨K,rfl⟩
       clear HF HA3 HG3
       by_cases c5:mid<e
       ·have hb5:decide ((mid:Int)<(e:Int))=true:=Yv (by omega)
        by_cases c6:e<b
        ·have hb6:decide ((e:Int)<(b:Int))=true:=Yv (by omega)
         go_wp2_with fail
         refine(IH.out K2 mid e b _ (by omega) HA4.out c5 c6 hb HF2.out.2.1 HF2.out.2.2.1 HF2.out.2.2.2.2.1 HF2.out.2.2.2.2.2.1).mono ?_
         rintro e5 w5 ⟨rfl,⟨K3,ha5,hk5⟩,hg5⟩
         have HA5:=Ya ha5
         have HS5:Aside0 (Sorted M K3 N a b):=⟨f3_rec HF2.out hk5 (by omega)⟩
         have HG5:Aside0 (Fr w w5 g):=⟨grow_trans HG4.out hg5⟩
         clear ha5 hk5 hg5 HA4 HF2 HG4
         go_wp2_with fail
         go_end0
         exact⟨rfl,⟨K3,HA5.out,HS5.out⟩,HG5.out⟩
        ·have hb6:decide ((e:Int)<(b:Int))=false:=Yw (by omega)
         have HS5:Aside0 (Sorted M K2 N a b):=⟨f3_no HF2.out (Or.inr (by omega))⟩
         clear HF2
         go_wp2_with fail
         go_end0
         exact⟨rfl,⟨K2,HA4.out,HS5.out⟩,HG4.out⟩
       ·have hb5:decide ((mid:Int)<(e:Int))=false:=Yw (by omega)
        have HS5:Aside0 (Sorted M K2 N a b):=⟨f3_no HF2.out (Or.inl (by omega))⟩
        clear HF2
        go_wp2_with fail
        go_end0
        exact⟨rfl,⟨K2,HA4.out,HS5.out⟩,HG4.out⟩
     ·have hb2:decide ((m:Int)<(e:Int))=false:=Yw (by omega)
      have HA3:Aside0 (Arr wr g N (rotM M s m e)):=⟨HA1.out.congr fun x _=>rot_none M (by omega) (by omega) (Or.inr (by omega)) x⟩
      have HG3:=HG
      clear HA1 HG
      obtain⟨K,hK⟩: ∃ K,K=rotM M s m e:=⟨_,rfl⟩
      rw[← hK] at HA3 HF
      clear hK
      by_cases c3:a<s
      ·have hb3:decide ((a:Int)<(s:Int))=true:=Yv (by omega)
       by_cases c4:s<mid
       ·have hb4:decide ((s:Int)<(mid:Int))=true:=Yv (by omega)
        go_wp2_with fail
        refine(IH.out K a s mid _ (by omega) HA3.out c3 c4 (by omega) HF.out.2.1 HF.out.2.2.1 HF.out.2.2.2.1 HF.out.2.2.2.2.1).mono ?_
        rintro e4 w4 ⟨rfl,⟨K2,ha4,hk4⟩,hg4⟩
        have HA4:=Ya ha4
        have HF2:Aside0 (F2 M K2 N a mid e b):=⟨f2_rec HF.out hk4 b5 b6⟩
        have HG4:Aside0 (Fr w w4 g):=⟨grow_trans HG3.out hg4⟩
        clear ha4 hk4 hg4 HA3 HF HG3
        by_cases c5:mid<e
        ·have hb5:decide ((mid:Int)<(e:Int))=true:=Yv (by omega)
         by_cases c6:e<b
         ·have hb6:decide ((e:Int)<(b:Int))=true:=Yv (by omega)
          go_wp2_with fail
          refine(IH.out K2 mid e b _ (by omega) HA4.out c5 c6 hb HF2.out.2.1 HF2.out.2.2.1 HF2.out.2.2.2.2.1 HF2.out.2.2.2.2.2.1).mono ?_
          rintro e5 w5 ⟨rfl,⟨K3,ha5,hk5⟩,hg5⟩
          have HA5:=Ya ha5
          have HS5:Aside0 (Sorted M K3 N a b):=⟨f3_rec HF2.out hk5 (by omega)⟩
          have HG5:Aside0 (Fr w w5 g):=⟨grow_trans HG4.out hg5⟩
          clear ha5 hk5 hg5 HA4 HF2 HG4
          go_wp2_with fail
          go_end0
          exact⟨rfl,⟨K3,HA5.out,HS5.out⟩,HG5.out⟩
         ·have hb6:decide ((e:Int)<(b:Int))=false:=Yw (by omega)
          have HS5:Aside0 (Sorted M K2 N a b):=⟨f3_no HF2.out (Or.inr (by omega))⟩
          clear HF2
          go_wp2_with fail
          go_end0
          exact⟨rfl,⟨K2,HA4.out,HS5.out⟩,HG4.out⟩
        ·have hb5:decide ((mid:Int)<(e:Int))=false:=Yw (by omega)
         have HS5:Aside0 (Sorted M K2 N a b):=⟨f3_no HF2.out (Or.inl (by omega))⟩
         clear HF2
         go_wp2_with fail
         go_end0
         exact⟨rfl,⟨K2,HA4.out,HS5.out⟩,HG4.out⟩
       ·have hb4:decide ((s:Int)<(mid:Int))=false:=Yw (by omega)
        have HF2:Aside0 (F2 M K N a mid e b):=⟨f2_no HF.out (Or.inr (by omega))⟩
        have HA4:=HA3
        have HG4:=HG3
        obtain⟨K2,rfl⟩: ∃ K2,K2=K:=⟨K,rfl⟩
        clear HF HA3 HG3
        by_cases c5:mid<e
        ·have hb5:decide ((mid:Int)<(e:Int))=true:=Yv (by omega)
         by_cases c6:e<b
         ·have hb6:decide ((e:Int)<(b:Int))=true:=Yv (by omega)
          go_wp2_with fail
          refine(IH.out K2 mid e b _ (by omega) HA4.out c5 c6 hb HF2.out.2.1 HF2.out.2.2.1 HF2.out.2.2.2.2.1 HF2.out.2.2.2.2.2.1).mono ?_
          rintro e5 w5 ⟨rfl,⟨K3,ha5,hk5⟩,hg5⟩
          have HA5:=Ya ha5
          have HS5:Aside0 (Sorted M K3 N a b):=⟨f3_rec HF2.out hk5 (by omega)⟩
          have HG5:Aside0 (Fr w w5 g):=⟨grow_trans HG4.out hg5⟩
          clear ha5 hk5 hg5 HA4 HF2 HG4
          go_wp2_with fail
          go_end0
          exact⟨rfl,⟨K3,HA5.out,HS5.out⟩,HG5.out⟩
         ·have hb6:decide ((e:Int)<(b:Int))=false:=Yw (by omega)
          have HS5:Aside0 (Sorted M K2 N a b):=⟨f3_no HF2.out (Or.inr (by omega))⟩
          clear HF2
          go_wp2_with fail
          go_end0
          exact⟨rfl,⟨K2,HA4.out,HS5.out⟩,HG4.out⟩
        ·have hb5:decide ((mid:Int)<(e:Int))=false:=Yw (by omega)
         have HS5:Aside0 (Sorted M K2 N a b):=⟨f3_no HF2.out (Or.inl (by omega))⟩
         clear HF2
         go_wp2_with fail
         go_end0
         exact⟨rfl,⟨K2,HA4.out,HS5.out⟩,HG4.out⟩
      ·have hb3:decide ((a:Int)<(s:Int))=false:=Yw (by omega)
       have HF2:Aside0 (F2 M K N a mid e b):=⟨f2_no HF.out (Or.inl (by omega))⟩
       have HA4:=HA3
       have HG4:=HG3
       obtain⟨K2,rfl⟩: ∃ K2,K2=K:=⟨K,rfl⟩
       clear HF HA3 HG3
       by_cases c5:mid<e
       ·have hb5:decide ((mid:Int)<(e:Int))=true:=Yv (by omega)
        by_cases c6:e<b
        ·have hb6:decide ((e:Int)<(b:Int))=true:=Yv (by omega)
         go_wp2_with fail
         refine(IH.out K2 mid e b _ (by omega) HA4.out c5 c6 hb HF2.out.2.1 HF2.out.2.2.1 HF2.out.2.2.2.2.1 HF2.out.2.2.2.2.2.1).mono ?_
         rintro e5 w5 ⟨rfl,⟨K3,ha5,hk5⟩,hg5⟩
         have HA5:=Ya ha5
         have HS5:Aside0 (Sorted M K3 N a b):=⟨f3_rec HF2.out hk5 (by omega)⟩
         have HG5:Aside0 (Fr w w5 g):=⟨grow_trans HG4.out hg5⟩
         clear ha5 hk5 hg5 HA4 HF2 HG4
         go_wp2_with fail
         go_end0
         exact⟨rfl,⟨K3,HA5.out,HS5.out⟩,HG5.out⟩
        ·have hb6:decide ((e:Int)<(b:Int))=false:=Yw (by omega)
         have HS5:Aside0 (Sorted M K2 N a b):=⟨f3_no HF2.out (Or.inr (by omega))⟩
         clear HF2
         go_wp2_with fail
         go_end0
         exact⟨rfl,⟨K2,HA4.out,HS5.out⟩,HG4.out⟩
       ·have hb5:decide ((mid:Int)<(e:Int))=false:=Yw (by omega)
        have HS5:Aside0 (Sorted M K2 N a b):=⟨f3_no HF2.out (Or.inl (by omega))⟩
        clear HF2
        go_wp2_with fail
        go_end0
        exact⟨rfl,⟨K2,HA4.out,HS5.out⟩,HG4.out⟩
    ·have hb1:decide ((s:Int)<(m:Int))=false:=Yw (by omega)
     have HA3:Aside0 (Arr wr g N (rotM M s m e)):=⟨HA1.out.congr fun x _=>rot_none M (by omega) (by omega) (Or.inl (by omega)) x⟩
     have HG3:=HG
     clear HA1 HG
     obtain⟨K,hK⟩: ∃ K,K=rotM M s m e:=⟨_,rfl⟩
     rw[← hK] at HA3 HF
     clear hK
     by_cases c3:a<s
     ·have hb3:decide ((a:Int)<(s:Int))=true:=Yv (by omega)
      by_cases c4:s<mid
      ·have hb4:decide ((s:Int)<(mid:Int))=true:=Yv (by omega)
       go_wp2_with fail
       refine(IH.out K a s mid _ (by omega) HA3.out c3 c4 (by omega) HF.out.2.1 HF.out.2.2.1 HF.out.2.2.2.1 HF.out.2.2.2.2.1).mono ?_
       rintro e4 w4 ⟨rfl,⟨K2,ha4,hk4⟩,hg4⟩
       have HA4:=Ya ha4
       have HF2:Aside0 (F2 M K2 N a mid e b):=⟨f2_rec HF.out hk4 b5 b6⟩
       have HG4:Aside0 (Fr w w4 g):=⟨grow_trans HG3.out hg4⟩
       clear ha4 hk4 hg4 HA3 HF HG3
       by_cases c5:mid<e
       ·have hb5:decide ((mid:Int)<(e:Int))=true:=Yv (by omega)
        by_cases c6:e<b
        ·have hb6:decide ((e:Int)<(b:Int))=true:=Yv (by omega)
         go_wp2_with fail
         refine(IH.out K2 mid e b _ (by omega) HA4.out c5 c6 hb HF2.out.2.1 HF2.out.2.2.1 HF2.out.2.2.2.2.1 HF2.out.2.2.2.2.2.1).mono ?_
         rintro e5 w5 ⟨rfl,⟨K3,ha5,hk5⟩,hg5⟩
         have HA5:=Ya ha5
         have HS5:Aside0 (Sorted M K3 N a b):=⟨f3_rec HF2.out hk5 (by omega)⟩
         have HG5:Aside0 (Fr w w5 g):=⟨grow_trans HG4.out hg5⟩
         clear ha5 hk5 hg5 HA4 HF2 HG4
         go_wp2_with fail
         go_end0
         exact⟨rfl,⟨K3,HA5.out,HS5.out⟩,HG5.out⟩
        ·have hb6:decide ((e:Int)<(b:Int))=false:=Yw (by omega)
         have HS5:Aside0 (Sorted M K2 N a b):=⟨f3_no HF2.out (Or.inr (by omega))⟩
         clear HF2
         go_wp2_with fail
         go_end0
         exact⟨rfl,⟨K2,HA4.out,HS5.out⟩,HG4.out⟩
       ·have hb5:decide ((mid:Int)<(e:Int))=false:=Yw (by omega)
        have HS5:Aside0 (Sorted M K2 N a b):=⟨f3_no HF2.out (Or.inl (by omega))⟩
        clear HF2
        go_wp2_with fail
        go_end0
        exact⟨rfl,⟨K2,HA4.out,HS5.out⟩,HG4.out⟩
      ·have hb4:decide ((s:Int)<(mid:Int))=false:=Yw (by omega)
       have HF2:Aside0 (F2 M K N a mid e b):=⟨f2_no HF.out (Or.inr (by omega))⟩
       have HA4:=HA3
       have HG4:=HG3
       obtain⟨K2,rfl⟩: ∃ K2,K2=K:=⟨K,rfl⟩
       clear HF HA3 HG3
       by_cases c5:mid<e
       ·have hb5:decide ((mid:Int)<(e:Int))=true:=Yv (by omega)
        by_cases c6:e<b
        ·have hb6:decide ((e:Int)<(b:Int))=true:=Yv (by omega)
         go_wp2_with fail
         refine(IH.out K2 mid e b _ (by omega) HA4.out c5 c6 hb HF2.out.2.1 HF2.out.2.2.1 HF2.out.2.2.2.2.1 HF2.out.2.2.2.2.2.1).mono ?_
         rintro e5 w5 ⟨rfl,⟨K3,ha5,hk5⟩,hg5⟩
         have HA5:=Ya ha5
         have HS5:Aside0 (Sorted M K3 N a b):=⟨f3_rec HF2.out hk5 (by omega)⟩
         have HG5:Aside0 (Fr w w5 g):=⟨grow_trans HG4.out hg5⟩
         clear ha5 hk5 hg5 HA4 HF2 HG4
         go_wp2_with fail
         go_end0
         exact⟨rfl,⟨K3,HA5.out,HS5.out⟩,HG5.out⟩
        ·have hb6:decide ((e:Int)<(b:Int))=false:=Yw (by omega)
         have HS5:Aside0 (Sorted M K2 N a b):=⟨f3_no HF2.out (Or.inr (by omega))⟩
         clear HF2
         go_wp2_with fail
         go_end0
         exact⟨rfl,⟨K2,HA4.out,HS5.out⟩,HG4.out⟩
       ·have hb5:decide ((mid:Int)<(e:Int))=false:=Yw (by omega)
        have HS5:Aside0 (Sorted M K2 N a b):=⟨f3_no HF2.out (Or.inl (by omega))⟩
        clear HF2
        go_wp2_with fail
        go_end0
        exact⟨rfl,⟨K2,HA4.out,HS5.out⟩,HG4.out⟩
     ·have hb3:decide ((a:Int)<(s:Int))=false:=Yw (by omega)
      have HF2:Aside0 (F2 M K N a mid e b):=⟨f2_no HF.out (Or.inl (by omega))⟩
      have HA4:=HA3
      have HG4:=HG3
      obtain⟨K2,rfl⟩: ∃ K2,K2=K:=⟨K,rfl⟩
      clear HF HA3 HG3
      by_cases c5:mid<e
      ·have hb5:decide ((mid:Int)<(e:Int))=true:=Yv (by omega)
       by_cases c6:e<b
       ·have hb6:decide ((e:Int)<(b:Int))=true:=Yv (by omega)
        go_wp2_with fail
        refine(IH.out K2 mid e b _ (by omega) HA4.out c5 c6 hb HF2.out.2.1 HF2.out.2.2.1 HF2.out.2.2.2.2.1 HF2.out.2.2.2.2.2.1).mono ?_
        rintro e5 w5 ⟨rfl,⟨K3,ha5,hk5⟩,hg5⟩
        have HA5:=Ya ha5
        have HS5:Aside0 (Sorted M K3 N a b):=⟨f3_rec HF2.out hk5 (by omega)⟩
        have HG5:Aside0 (Fr w w5 g):=⟨grow_trans HG4.out hg5⟩
        clear ha5 hk5 hg5 HA4 HF2 HG4
        go_wp2_with fail
        go_end0
        exact⟨rfl,⟨K3,HA5.out,HS5.out⟩,HG5.out⟩
       ·have hb6:decide ((e:Int)<(b:Int))=false:=Yw (by omega)
        have HS5:Aside0 (Sorted M K2 N a b):=⟨f3_no HF2.out (Or.inr (by omega))⟩
        clear HF2
        go_wp2_with fail
        go_end0
        exact⟨rfl,⟨K2,HA4.out,HS5.out⟩,HG4.out⟩
      ·have hb5:decide ((mid:Int)<(e:Int))=false:=Yw (by omega)
       have HS5:Aside0 (Sorted M K2 N a b):=⟨f3_no HF2.out (Or.inl (by omega))⟩
       clear HF2
       go_wp2_with fail
       go_end0
       exact⟨rfl,⟨K2,HA4.out,HS5.out⟩,HG4.out⟩
theorem sym_ok (g N cap:Nat) (hN:N≤1000000): ∀ d,SymOk g N cap d
 |0=>fun M a m b w hd h h1 h2 hb hs hsm l1 l2=>by omega
 |d+1=>fun M a m b w hd h h1 h2 hb hs hsm l1 l2=>by
  by_cases e1:m=a+1
  ·subst e1
   have:=symLo_calls g N cap M a b w h hN h2 hb hs hsm l2
   exact this
  ·by_cases e2:b=m+1
   ·subst e2
    have:=symHi_calls g N cap M a m w h hN (by omega) hb hs hsm l1
    exact this
   ·exact symMid_calls g N cap d (sym_ok g N cap hN d) M a m b w hd h hN (by omega) (by omega) hb hs hsm l1 l2
end H
namespace H
open P
def Blk (K:Nat→S38) (bs lo hi:Nat):Prop:= ∀ t i j,t * bs+lo≤i→i<j→j<t * bs+bs+lo→j<hi→(K i).f0≤(K j).f0
theorem blk_shift {K:Nat→S38} {bs lo hi:Nat} (h:Blk K bs lo hi):Blk K bs (lo+bs) hi:=fun t i j h1 h2 h3 h4=>by
 have e:(t+1) * bs=t * bs+bs:=Nat.succ_mul t bs
 exact h (t+1) i j (by omega) h2 (by omega) h4
theorem blk_head {K:Nat→S38} {bs lo hi c:Nat} (h:Blk K bs lo hi) (h1:c≤lo+bs) (h2:c≤hi):Le K lo c:=fun i j k1 k2 k3=>h 0 i j (by omega) k2 (by omega) (by omega)
theorem blk_snoc {K:Nat→S38} {bs a c k:Nat} (h:Blk K bs 0 a) (ha:a=k * bs) (hl:Le K a c):Blk K bs 0 c:=fun t i j h1 h2 h3 h4=>by
 by_cases e1:j<a
 ·exact h t i j h1 h2 h3 e1
 ·by_cases e2:a≤i
  ·exact hl i j e2 h2 h4
  ·exfalso
   have e:(t+1) * bs=t * bs+bs:=Nat.succ_mul t bs
   have l1:t * bs<k * bs:=by omega
   have l2:k * bs<(t+1) * bs:=by omega
   have:=Nat.lt_of_mul_lt_mul_right l1
   have:=Nat.lt_of_mul_lt_mul_right l2
   omega
theorem blk_mix {K L:Nat→S38} {bs lo hi c d:Nat} (h:Blk K bs lo hi) (hm:Mix K L c d) (hd:hi≤c∨d≤lo):Blk L bs lo hi:=fun t i j h1 h2 h3 h4=>by
 rw[hm.1 i (by omega),hm.1 j (by omega)];exact h t i j h1 h2 h3 h4
theorem blk_nil (K:Nat→S38) (bs lo:Nat):Blk K bs lo lo:=fun t i j h1 h2 h3 h4=>by omega
def Base3 (M K:Nat→S38) (N:Nat):Prop:=Mix M K 0 N∧Stab K N∧Small K N
theorem base_more {M K L:Nat→S38} {N a b:Nat} (h:Base3 M K N) (hl:Sorted K L N a b) (hb:b≤N):Base3 M L N:=⟨mix_trans h.1 (mix_wide hl.1 (Nat.zero_le _) hb),hl.2.1,hl.2.2.1⟩
set_option maxHeartbeats 2000000 in
set_option maxRecDepth 100000 in
theorem stable_calls (g N cap:Nat) (M:Nat→S38) (w:World) (h:Arr w g N M) (hN:N≤1000000) (hs:Stab M N) (hsm:Small M N):
  Calls Try.prog 162 #[.slice (some ⟨g,0,none⟩) N cap, .int .i64 (N:Int), .func (.func 144) #[] #[]] w fun e w'=>e= .returned (.tuple #[])∧(∃ K,Arr w' g N K∧Sorted M K N 0 N)∧Fr w w' g:=by
 have HA:=Ya h
 have HB:=Ya (show Base3 M M N from⟨mix_refl _ _ _,hs,hsm⟩)
 clear h hs hsm
 go_enter Try.func162,Try.ntmps162
 go_wp2_with fail
 go_loopw [7,8] (fun va vb wr=> ∃ a:Nat,a≤N∧va= .int .i64 a∧vb= .int .i64 ((a:Int)+20)∧(∃ k,Aside0 (a=k * 20))∧(∃ K,Aside0 (Arr wr g N K)∧Aside0 (Base3 M K N)∧Aside0 (Blk K 20 0 a))∧Aside0 (Fr w wr g)) (fun va _ _=>N+1 - (intOf va).toNat)
 case atStart=>exact⟨0,by omega,by go_num,by go_num,⟨0,⟨rfl⟩⟩,⟨M,HA,HB,⟨blk_nil _ _ _⟩⟩,⟨grow_refl _ _⟩⟩
 case round=>
  clear HA HB
  obtain⟨a,haN,rfl,rfl,⟨k,hk⟩,⟨K,HA1,HB1,HK⟩,HG⟩:=hrel
  by_cases hlt:a+20≤N
  ·have hz:(a:Int)+20=((a+20:Nat):Int):=by omega
   have hcb:decide (((a+20:Nat):Int)≤(N:Int))=true:=Yv (by omega)
   rw[hz]
   clear hz
   go_wp2_with fail
   refine(insertion_calls g N cap K a (a+20) _ HA1.out hN (by omega) hlt HB1.out.2.1 HB1.out.2.2).mono ?_
   rintro e1 w1 ⟨rfl,⟨K1,ha1,hk1⟩,hg1⟩
   have HA2:=Ya ha1
   have HB2:Aside0 (Base3 M K1 N):=⟨base_more HB1.out hk1 hlt⟩
   have HK2:Aside0 (Blk K1 20 0 (a+20)):=⟨blk_snoc (blk_mix HK.out hk1.1 (Or.inl (Nat.le_refl _))) hk.out hk1.2.2.2⟩
   have HG2:Aside0 (Fr w w1 g):=⟨grow_trans HG.out hg1⟩
   have hk2:Aside0 (a+20=(k+1) * 20):=by have:=hk.out;exact⟨by omega⟩
   clear ha1 hk1 hg1 HA1 HB1 HK HG hk
   go_wp2_with fail
   go_roundw
   case rel=>exact⟨a+20,hlt,rfl,by go_num,⟨k+1,hk2⟩,⟨K1,HA2,HB2,HK2⟩,HG2⟩
   case measure=>simp[intOf]<;>omega
  ·have hcb:decide ((a:Int)+20≤(N:Int))=false:=Yw (by omega)
   go_wp2_with fail
   refine(insertion_calls g N cap K a N _ HA1.out hN haN (Nat.le_refl _) HB1.out.2.1 HB1.out.2.2).mono ?_
   rintro e1 w1 ⟨rfl,⟨K1,ha1,hk1⟩,hg1⟩
   have HA2:=Ya ha1
   have HB2:Aside0 (Base3 M K1 N):=⟨base_more HB1.out hk1 (Nat.le_refl _)⟩
   have HK2:Aside0 (Blk K1 20 0 N):=⟨blk_snoc (blk_mix HK.out hk1.1 (Or.inl (Nat.le_refl _))) hk.out hk1.2.2.2⟩
   have HG2:Aside0 (Fr w w1 g):=⟨grow_trans HG.out hg1⟩
   clear ha1 hk1 hg1 HA1 HB1 HK HG hk hcb
   go_wp2_with fail
   go_loopw [6] (fun vs wr=> ∃ s:Nat,0<s∧s≤2000020∧vs= .int .i64 s∧(∃ K,Aside0 (Arr wr g N K)∧Aside0 (Base3 M K N)∧Aside0 (Blk K s 0 N))∧Aside0 (Fr w wr g)) (fun vs _=>N - (intOf vs).toNat)
   case atStart=>exact⟨20,by omega,by omega,by go_num,⟨K1,HA2,HB2,HK2⟩,HG2⟩
   case round=>
    clear HA2 HB2 HK2 HG2
    obtain⟨s,hs0,hs1,rfl,⟨K,HA1,HB1,HK⟩,HG⟩:=hrel
    by_cases hsn:s<N
    ·obtain⟨s2,hs2⟩: ∃ s2,2 * s=s2:=⟨_,rfl⟩
     have hz:(2:Int) * (s:Int)=(s2:Int):=by omega
     have hz3:(s:Int) * 2=(s2:Int):=by omega
     have bs2:s2≤2000000:=by omega
     have hcs:decide ((s:Int)<(N:Int))=true:=Yv (by omega)
     have HS:=Ya hs2
     have HK0:Aside0 (Blk K s2 0 0∧Blk K s 0 N):=⟨blk_nil _ _ _,HK.out⟩
     clear HK hs2
     go_wp2_with fail
     obtain⟨wo,rfl⟩: ∃ wo:World,wo=wr:=⟨_,rfl⟩
     go_loopw [7,8] (fun va vb wr=> ∃ a b:Nat,a≤N∧va= .int .i64 a∧vb= .int .i64 b∧Aside0 (a+s2=b)∧(∃ k,Aside0 (a=k * s2))∧(∃ K,Aside0 (Arr wr g N K)∧Aside0 (Base3 M K N)∧Aside0 (Blk K s2 0 a∧Blk K s a N))∧Aside0 (Fr w wr g)) (fun va _ _=>N+1 - (intOf va).toNat)
     case atStart=>exact⟨0,s2,by omega,by go_num,rfl,⟨by omega⟩,⟨0,⟨by omega⟩⟩,⟨K,HA1,HB1,HK0⟩,HG⟩
     case round=>
      clear HA1 HB1 HK0 HG
      obtain⟨a,b,haN,rfl,rfl,HBB,⟨k,hk⟩,⟨K,HA1,HB1,HK⟩,HG⟩:=hrel
      obtain⟨m,hm⟩: ∃ m,a+s=m:=⟨_,rfl⟩
      have hz2:(a:Int)+(s:Int)=(m:Int):=by omega
      have HM:=Ya hm
      clear hm
      by_cases hlt:b≤N
      ·have hcb:decide ((b:Int)≤(N:Int))=true:=Yv (by omega)
       go_wp2_with fail
       refine(sym_ok g N cap hN N K a m b _ (by omega) HA1.out (by have:=HM.out;omega) (by have:=HM.out;have:=HBB.out;have:=HS.out;omega) hlt HB1.out.2.1 HB1.out.2.2 (blk_head HK.out.2 (by have:=HM.out;omega) (by have:=HM.out;have:=HBB.out;have:=HS.out;omega)) (blk_head (by rw[← HM.out];exact blk_shift HK.out.2) (by have:=HM.out;have:=HBB.out;have:=HS.out;omega) hlt)).mono ?_
       rintro e1 w1 ⟨rfl,⟨K1,ha1,hk1⟩,hg1⟩
       have HA2:=Ya ha1
       have HB2:Aside0 (Base3 M K1 N):=⟨base_more HB1.out hk1 hlt⟩
       have HK2:Aside0 (Blk K1 s2 0 b∧Blk K1 s b N):=⟨blk_snoc (blk_mix HK.out.1 hk1.1 (Or.inl (Nat.le_refl _))) hk.out hk1.2.2.2,blk_mix (by rw[show b=a+s+s by have:=HBB.out;have:=HS.out;omega];exact blk_shift (blk_shift HK.out.2)) hk1.1 (Or.inr (Nat.le_refl _))⟩
       have HG2:Aside0 (Fr w w1 g):=⟨grow_trans HG.out hg1⟩
       have hk2:Aside0 (b=(k+1) * s2):=⟨by rw[Nat.succ_mul, ← hk.out,HBB.out]⟩
       have hlb:Aside0 (a<b):=⟨by have:=HBB.out;have:=HS.out;omega⟩
       clear ha1 hk1 hg1 HA1 HB1 HK HG hk HBB HM
       go_wp2_with fail
       go_roundw
       case rel=>exact⟨b,b+s2,hlt,rfl,by rw[Int.natCast_add],⟨rfl⟩,⟨k+1,hk2⟩,⟨K1,HA2,HB2,HK2⟩,HG2⟩
       case measure=>have:=hlb.out;simp[intOf]<;>omega
      ·have hcb:decide ((b:Int)≤(N:Int))=false:=Yw (by omega)
       have hsp:Aside0 (0<s2∧s<s2):=⟨by have:=HS.out;omega⟩
       by_cases hmn:m<N
       ·have hcm:decide ((m:Int)<(N:Int))=true:=Yv (by omega)
        go_wp2_with fail
        refine(sym_ok g N cap hN N K a m N _ (by omega) HA1.out (by have:=HM.out;omega) hmn (Nat.le_refl _) HB1.out.2.1 HB1.out.2.2 (blk_head HK.out.2 (by have:=HM.out;omega) (by omega)) (blk_head (by rw[← HM.out];exact blk_shift HK.out.2) (by have:=HM.out;have:=HBB.out;have:=HS.out;omega) (Nat.le_refl _))).mono ?_
        rintro e1 w1 ⟨rfl,⟨K1,ha1,hk1⟩,hg1⟩
        have HA2:=Ya ha1
        have HB2:Aside0 (Base3 M K1 N):=⟨base_more HB1.out hk1 (Nat.le_refl _)⟩
        have HK2:Aside0 (Blk K1 s2 0 N):=⟨blk_snoc (blk_mix HK.out.1 hk1.1 (Or.inl (Nat.le_refl _))) hk.out hk1.2.2.2⟩
        have HG2:Aside0 (Fr w w1 g):=⟨grow_trans HG.out hg1⟩
        clear ha1 hk1 hg1 HA1 HB1 HK HG hk HBB HM
        go_wp2_with fail
        go_roundw
        case rel=>exact⟨s2,hsp.out.1,by omega,rfl,⟨K1,HA2,HB2,HK2⟩,HG2⟩
        case measure=>have:=hsp.out;simp[intOf]<;>omega
       ·have hcm:decide ((m:Int)<(N:Int))=false:=Yw (by omega)
        have HK2:Aside0 (Blk K s2 0 N):=⟨blk_snoc HK.out.1 hk.out (blk_head HK.out.2 (by have:=HM.out;omega) (Nat.le_refl _))⟩
        clear HK hk HBB HM
        go_wp2_with fail
        go_roundw
        case rel=>exact⟨s2,hsp.out.1,by omega,rfl,⟨K,HA1,HB1,HK2⟩,HG⟩
        case measure=>have:=hsp.out;simp[intOf]<;>omega
    ·have hcs:decide ((s:Int)<(N:Int))=false:=Yw (by omega)
     go_wp2_with fail
     go_end0
     exact⟨rfl,⟨K,HA1.out,HB1.out.1,HB1.out.2.1,HB1.out.2.2,blk_head HK.out (by omega) (Nat.le_refl _)⟩,HG.out⟩
theorem sortStable_calls (g N cap:Nat) (M:Nat→S38) (w:World) (h:Arr w g N M) (hN:N≤1000000) (hs:Stab M N) (hsm:Small M N):
  Calls Try.prog 143 #[.slice (some ⟨g,0,none⟩) N cap, .func (.func 144) #[] #[]] w fun e w'=>e= .returned (.tuple #[])∧(∃ K,Arr w' g N K∧Sorted M K N 0 N)∧Fr w w' g:=by
 go_enter Try.func143,Try.ntmps143
 go_wp2_with fail
 refine(stable_calls g N cap M w h hN hs hsm).mono ?_
 rintro e1 w1 ⟨rfl,h1,h2⟩
 go_wp2_with fail
 go_end0
 exact⟨rfl,h1,h2⟩
end H
namespace H
open P
theorem arr_of_R {w:World} {base g cap:Nat} {ok:Nat→Prop} {xs:List S38} (h:Kd.R k38 38 w base ok (.slice (some ⟨g,0,none⟩) xs.length cap) xs) (hp:0<xs.length):Arr w g xs.length fun i=>xs.getD i z38:=by
 obtain⟨g2,cap2,e,_,_,cells,hb⟩:=Kd.R_form h hp
 have eg:g=g2:=by
  injection e with e1 e2 e3
  injection e1 with e1
  injection e1
 subst eg
 refine⟨cells,hb,fun x hx=> ?_⟩
 obtain⟨ad,ea,h1,h2⟩:=at_T38 (Kd.R_reads' h).2.2 (x:Int) (by omega) (by omega)
 injection ea with ea
 subst ea
 simp only[Int.toNat_natCast,add_plain] at h1 h2
 constructor
 ·have:=h1
  simp only[World.cell?,hb] at this
  simpa [rd_T38] using this
 ·have:=h2
  simp only[World.cell?,hb] at this
  simpa [rd_T38] using this
theorem R_of_arr {w w':World} {base g N cap:Nat} {ok ok':Nat→Prop} {xs:List S38} {K:Nat→S38} (h:Kd.R k38 38 w base ok (.slice (some ⟨g,0,none⟩) xs.length cap) xs) (hN:xs.length=N) (hp:0<N) (ha:Arr w' g N K) (hf:Fr w w' g) (hok:ok' g):
  Kd.R k38 38 w' base ok' (.slice (some ⟨g,0,none⟩) N cap) ((List.range N).map K):=by
 obtain⟨h0,inner,ho,hr⟩:=h
 obtain⟨cells',hb',hc⟩:=ha
 obtain⟨_,hq⟩:=ho
 rcases hq with ⟨e,_⟩|⟨g2,cap2,cur,e,hbase,hb,hn,hm,hs,ht⟩
 ·injection e with e1;cases e1
 ·injection e with e1 e2 e3
  injection e1 with e1
  injection e1 with e1
  subst e1;subst e3
  obtain⟨c2,hb2,hs2⟩:=hf.2 _ _ _ hb
  have ec:c2=cells':=by
   have:=hb2.symm.trans hb'
   injection this with this
   injection this
  subst ec
  have hlen:(c2.toList.take (N * 2)).length=N * 2:=by
   rw[List.length_take,Array.length_toList,hs2,hs]
   have:N≤cap:=by omega
   have:N * 2≤cap * 2:=Nat.mul_le_mul_right _ this
   show min (N * 2) (cap * 2)=N * 2
   omega
  refine⟨fun k hk=> ?_,c2.toList.take (N * 2),⟨?_,Or.inr ⟨g,cap,c2,?_,hbase,hb2,?_,hm,by rw[hs2,hs],?_⟩⟩,?_,fun j p hj=> ?_⟩
  ·have:g=k:=by simpa [Value.ownBlock] using hk
   subst this;exact hok
  ·rw[hlen,List.length_map,List.length_range];rfl
  ·rw[List.length_map,List.length_range]
  ·rw[List.length_map,List.length_range];omega
  ·rw[List.length_map,List.length_range];rfl
  ·rw[hlen,List.length_map,List.length_range];rfl
  ·rw[List.getElem?_map] at hj
   obtain⟨q,hq,rfl⟩:=Option.map_eq_some_iff.1 hj
   have hjN:j<N:=by
    have:=(List.getElem?_eq_some_iff.1 hq).1
    rwa [List.length_range] at this
   have eq:q=j:=by
    rw[List.getElem?_range hjN] at hq
    injection hq with hq;exact hq.symm
   subst eq
   have e:((c2.toList.take (N * 2)).drop (q * 2)).take 2=[.int .i64 (K q).f0, .bool (K q).f1]:=by
    obtain⟨c0,c1⟩:=hc q hjN
    apply List.ext_getElem?
    intro m
    rw[List.getElem?_take,List.getElem?_drop,List.getElem?_take]
    match m with
    |0=>rw[Yx (by omega),Yx (by omega),Nat.add_zero,Array.getElem?_toList,c0];rfl
    |1=>rw[Yx (by omega),Yx (by omega),Array.getElem?_toList,c1];rfl
    |m+2=>rw[Yy (by omega)];rfl
   show (Kd.M k38 w' base _ (K q) (((c2.toList.take (N * 2)).drop (q * 2)).take 2))
   rw[e]
   exact k38_mkM _ _ _ _
theorem stab_of_list {xs:List S38} (h:xs.Pairwise fun x y=>x.f0=y.f0→x.f1=false∧y.f1=true):Stab (fun i=>xs.getD i z38) xs.length:=by
 intro i j hij hj e
 rw[List.pairwise_iff_getElem] at h
 have hi:i<xs.length:=by omega
 simp only[List.getD_eq_getElem?_getD,List.getElem?_eq_getElem hi,List.getElem?_eq_getElem hj,Option.getD_some] at e ⊢
 exact h i j hi hj hij e
theorem small_steps {l:List S74} {n:Nat} {v:Int} (hv0:0≤v) (hv:v<n) (hE:ends l n) (hl:l.length≤1000000):Small (fun i=>(stepsU l n v).getD i z38) (stepsU l n v).length:=by
 intro i hi
 simp only[List.getD_eq_getElem?_getD,List.getElem?_eq_getElem hi,Option.getD_some]
 obtain⟨k,h1,h2,_⟩:=(mem_stepsU l n v hv0 hv hE _).1 (List.getElem_mem hi)
 rw[h2]
 omega
theorem sorted_is {l:List S74} {n:Nat} {v:Int} {K:Nat→S38} (hv0:0≤v) (hv:v<n) (hE:ends l n)
  (h:Sorted (fun i=>(stepsU l n v).getD i z38) K (stepsU l n v).length 0 (stepsU l n v).length):(List.range (stepsU l n v).length).map K=stL l v l.length:=by
 obtain⟨⟨_,m1,m2⟩,hst,_,hle⟩:=h
 refine sorted_uniq _ _ ?_ (sorted_stL l v l.length) fun s=> ?_
 ·rw[List.pairwise_map]
  refine List.Pairwise.imp_of_mem (R:=(· < ·)) (fun {a b} ha hb hab=> ?_) List.pairwise_lt_range
  rw[List.mem_range] at ha hb
  have:=hle a b (Nat.zero_le _) hab hb
  by_cases e:(K a).f0=(K b).f0
  ·exact Or.inr ⟨e,hst a b hab hb e⟩
  ·exact Or.inl (by omega)
 ·rw[mem_stL, ← mem_stepsU l n v hv0 hv hE,List.mem_map]
  constructor
  ·rintro⟨i,hi,rfl⟩
   rw[List.mem_range] at hi
   obtain⟨y,_,hy,e⟩:=m1 i (Nat.zero_le _) hi
   rw[e]
   simp only[List.getD_eq_getElem?_getD,List.getElem?_eq_getElem hy,Option.getD_some]
   exact List.getElem_mem hy
  ·intro hs
   obtain⟨y,hy,e⟩:=List.mem_iff_getElem.1 hs
   obtain⟨x,_,hx,e2⟩:=m2 y (Nat.zero_le _) hy
   refine⟨x,List.mem_range.2 hx,?_⟩
   rw[e2]
   simp only[List.getD_eq_getElem?_getD,List.getElem?_eq_getElem hy,Option.getD_some]
   exact e
def rowsAt (l:List S74) (n k:Nat):List (List S38):=(List.range n).map fun v=>if v<k then stL l v l.length else []
theorem rowsAt_len (l:List S74) (n k:Nat):(rowsAt l n k).length=n:=by
 unfold rowsAt;rw[List.length_map,List.length_range]
theorem rowsAt_get (l:List S74) (n k v:Nat) (hv:v<n):(rowsAt l n k)[v]? =some (if v<k then stL l v l.length else []):=by
 unfold rowsAt
 rw[List.getElem?_map,List.getElem?_range hv]
 rfl
theorem rowsAt_zero (l:List S74) (n:Nat):rowsAt l n 0=List.replicate n []:=by
 apply List.ext_getElem?
 intro v
 by_cases hv:v<n
 ·rw[rowsAt_get l n 0 v hv,List.getElem?_replicate,Yx hv,Yy (by omega)]
 ·rw[List.getElem?_eq_none (by rw[rowsAt_len];omega),List.getElem?_eq_none (by rw[List.length_replicate];omega)]
theorem rowsAt_set (l:List S74) (n k:Nat) (hk:k<n):(rowsAt l n k).set k (stL l k l.length)=rowsAt l n (k+1):=by
 apply List.ext_getElem?
 intro v
 by_cases hv:v<n
 ·rw[rowsAt_get l n (k+1) v hv]
  by_cases e:k=v
  ·subst e
   rw[List.getElem?_set_self (by rw[rowsAt_len];exact hk),Yx (by omega)]
  ·rw[List.getElem?_set_ne e,rowsAt_get l n k v hv]
   by_cases c:v<k
   ·rw[Yx c,Yx (by omega)]
   ·rw[Yy c,Yy (by omega)]
 ·rw[List.getElem?_eq_none (by rw[List.length_set,rowsAt_len];omega),List.getElem?_eq_none (by rw[rowsAt_len];omega)]
theorem rowsAt_self (l:List S74) (n k:Nat) (hk:k<n):(rowsAt l n k).set k []=rowsAt l n k:=by
 apply List.ext_getElem?
 intro v
 by_cases e:k=v
 ·subst e
  rw[List.getElem?_set_self (by rw[rowsAt_len];exact hk),rowsAt_get l n k k hk,Yy (by omega)]
 ·rw[List.getElem?_set_ne e]
theorem rd_set (X:List (List S38)) (k:Nat) (r:List S38) (hk:k<X.length):rd_L4 (X.set k r) (k:Int)=r:=by
 unfold rd_L4
 rw[List.getD_eq_getElem?_getD,Int.toNat_natCast,List.getElem?_set_self hk]
 rfl
end H
namespace H
open P
structure Kp (gd gi gb:Nat) (w w':World):Prop where
 os:w'.os=w.os
 tape:w'.tape=w.tape
 output:w'.output=w.output
 size:w.heap.size≤w'.heap.size
 block: ∀ k,k<w.heap.size→k≠gd→k≠gi→k≠gb→w'.heap[k]? =w.heap[k]?
theorem Kp.refl (gd gi gb:Nat) (w:World):Kp gd gi gb w w:=⟨rfl,rfl,rfl,Nat.le_refl _,fun _ _ _ _ _=>rfl⟩
theorem Kp.below {gd gi gb:Nat} {w w1 w2:World} (h:Kp gd gi gb w w1) (hb:Below w1.heap.size w1 w2):Kp gd gi gb w w2:=
 ⟨hb.os.trans h.os,hb.tape.trans h.tape,hb.output.trans h.output,Nat.le_trans h.size hb.size,fun k hk h1 h2 h3=>(hb.block k (Nat.lt_of_lt_of_le hk h.size)).trans (h.block k hk h1 h2 h3)⟩
theorem Kp.set {gd gi gb:Nat} {w w1:World} (h:Kp gd gi gb w w1) {g:Nat} (hg:g=gd∨g=gi∨g=gb) (j:Nat) (u:Value):Kp gd gi gb w (w1.setCell ⟨g,j,none⟩ u):=
 ⟨h.os,h.tape,h.output,by simpa [World.setCell] using h.size,fun k hk h1 h2 h3=>(Below.heap_setCell w1 ⟨g,j,none⟩ u k (by rcases hg with rfl|rfl|rfl<;>assumption)).trans (h.block k hk h1 h2 h3)⟩
theorem Kp.toBelow {gd gi gb B:Nat} {w0 w w':World} (h:Kp gd gi gb w w') (hb:Below B w0 w) (hB:B≤w.heap.size) (h1:B≤gd) (h2:B≤gi) (h3:B≤gb):Below B w0 w':=
 hb.trans ⟨h.os,h.tape,h.output,h.size,fun k hk=>h.block k (by omega) (by omega) (by omega) (by omega)⟩
def Bd (D:List Int) (c:Int):Prop:= ∀ v:Nat, -(1048576 * c)≤D.getD v 0∧D.getD v 0≤1048576 * c
theorem Bd.mono {D:List Int} {c c':Int} (h:Bd D c) (hc:c≤c'):Bd D c':=fun v=>by have:=h v;omega
theorem Bd.set {D:List Int} {c:Int} (h:Bd D c) (hc:0≤c) (u v:Nat) (t:Int) (h1: -1048576≤t) (h2:t≤1048576):Bd (D.set u (D.getD v 0+t)) (c+1):=by
 intro z
 have hz:=h z
 have hv:=h v
 by_cases e:u=z
 ·subst e
  by_cases hl:u<D.length
  ·rw[getD_set_eq _ _ _ _ hl];omega
  ·rw[List.getD_eq_getElem?_getD,List.getElem?_eq_none (by rw[List.length_set];omega)]
   show _≤(0:Int)∧(0:Int)≤_
   omega
 ·rw[getD_set_ne _ _ _ _ _ e];omega
structure Right (l:List S74) (F:List Int) (n:Nat):Prop where
 pos:0<n
 fifty:n≤50
 arcs:l.length≤200
 len:F.length=l.length
 ends:ends l n
 nums: ∀ i:Nat,i<l.length→0≤(rd_T74 l i).f3∧(rd_T74 l i).f3≤1048576∧0≤F.getD i 0∧F.getD i 0≤(rd_T74 l i).f2∧(rd_T74 l i).f2≤1048576
theorem stL_len (l:List S74) (v:Int) (k:Nat):(stL l v k).length≤2 * k:=by
 induction k with
 |zero=>exact Nat.le_refl _
 |succ k ih=>
  unfold stL
  rw[List.length_append,List.length_append]
  split<;>split<;>simp<;>omega
def StepOf (l:List S74) (s:S38):Prop:= ∃ i:Nat,i<l.length∧s.f0=i
theorem stL_of {l:List S74} {v:Int} {s:S38} (h:s∈stL l v l.length):StepOf l s:=by
 obtain⟨i,h1,h2,_⟩:=(mem_stL l v l.length s).1 h
 exact⟨i,h1,h2⟩
theorem stL_from {l:List S74} {v:Int} {s:S38} (h:s∈stL l v l.length):stFrom l s=v:=by
 obtain⟨i,h1,h2,h3⟩:=(mem_stL l v l.length s).1 h
 unfold stFrom
 rw[h2]
 rcases h3 with ⟨h3,h4⟩|⟨h3,h4⟩
 ·rw[h3];exact h4
 ·rw[h3];exact h4
theorem stTo_in {l:List S74} {F:List Int} {n:Nat} (hr:Right l F n) {s:S38} (hs:StepOf l s):0≤stTo l s∧stTo l s<n:=by
 obtain⟨i,h1,h2⟩:=hs
 have:=hr.ends i h1
 unfold stTo
 rw[h2]
 split
 ·exact this.1
 ·exact this.2
theorem stTime_in {l:List S74} {F:List Int} {n:Nat} (hr:Right l F n) {s:S38} (hs:StepOf l s): -1048576≤stTime l s∧stTime l s≤1048576:=by
 obtain⟨i,h1,h2⟩:=hs
 have:=hr.nums i h1
 unfold stTime
 rw[h2]
 split<;>omega
theorem to_f {l:List S74} {F:List Int} {n:Nat} (hr:Right l F n) {s:S38} (hs:StepOf l s) (a:Int) (b:Bool):static_Flowing_To.f a b l F s.f0 s.f1=some (stTo l s):=by
 obtain⟨i,h1,h2⟩:=hs
 unfold static_Flowing_To.f static_Flowing_From.f stTo eFrom eTo
 rw[h2]
 cases s.f1<;>simp[h1]
theorem time_f {l:List S74} {F:List Int} {n:Nat} (hr:Right l F n) {s:S38} (hs:StepOf l s) (a:Int) (b:Bool):static_Flowing_Time.f a b l F s.f0 s.f1=some (stTime l s):=by
 obtain⟨i,h1,h2⟩:=hs
 have h3:=hr.nums i h1
 unfold static_Flowing_Time.f stTime
 rw[h2]
 cases s.f1
 ·simp[h1]
 ·have:wrap64 (-(rd_T74 l i).f3)= -(rd_T74 l i).f3:=by unfold wrap64;omega
  simp[h1,this]
theorem room_f {l:List S74} {F:List Int} {n:Nat} (hr:Right l F n) {s:S38} (hs:StepOf l s) (a:Int) (b:Bool):static_Flowing_Room.f a b l F s.f0 s.f1=some (stRoom l F s):=by
 obtain⟨i,h1,h2⟩:=hs
 have h3:=hr.nums i h1
 have h4:=hr.len
 unfold static_Flowing_Room.f stRoom
 rw[h2]
 have e:rd F (i:Int)=F.getD i 0:=by unfold rd;rw[Int.toNat_natCast]
 cases s.f1
 ·have:wrap64 ((rd_T74 l i).f2 - F.getD i 0)=(rd_T74 l i).f2 - F.getD i 0:=by unfold wrap64;omega
  rw[Yy (by simp),Yx (by omega),Yx (by omega),Yx (by omega),Yy (by simp),e,this,Int.toNat_natCast]
 ·rw[Yx rfl,Yx (by omega),Yx (by omega),Yx rfl,e,Int.toNat_natCast]
end H
namespace Q
theorem Ev.pos {α:Type} {c:Prop} [Decidable c] {f g:Nat→Option α} {r:α} (h:c) (e:Ev f r):Ev (fun k=>if c then f k else g k) r:=
 Ev.congr (fun _=>Yx h) e
theorem Ev.neg {α:Type} {c:Prop} [Decidable c] {f g:Nat→Option α} {r:α} (h: ¬ c) (e:Ev g r):Ev (fun k=>if c then f k else g k) r:=
 Ev.congr (fun _=>Yy h) e
theorem Ev.ite {α:Type} {c:Prop} [Decidable c] {f g:Nat→Option α} {r:α} (e:c→Ev f r) (e': ¬ c→Ev g r):Ev (fun k=>if c then f k else g k) r:=by
 by_cases h:c
 ·exact Ev.pos h (e h)
 ·exact Ev.neg h (e' h)
theorem Ev.succ {α:Type} {g:Nat→Option α} {r:α} (e:Ev (fun k=>g (k+1)) r):Ev g r:=Ev.step (fun _=>rfl) e
theorem Ev.let_ {α β:Type} {a:α} {f:Nat→α→Option β} {r:β} (e:Ev (fun k=>f k a) r):Ev (fun k=>(some a).bind (f k)) r:=e
theorem Ev.call {α β:Type} {g:Option α} {a:α} {f:Nat→α→Option β} {r:β} (h:g=some a) (e:Ev (fun k=>f k a) r):Ev (fun k=>g.bind (f k)) r:=by
 subst h;exact e
theorem Ev.done {α:Type} {a r:α} (h:a=r):Ev (fun _=>some a) r:=h▸Ev.now a
theorem Ev.eq {α:Type} {g:Nat→Option α} {a r:α} (h:Ev g a) (e:a=r):Ev g r:=e▸h
theorem wrap_id {x:Int} (h0: -9223372036854775808≤x) (h1:x≤9223372036854775807):wrap64 x=x:=by
 unfold wrap64
 omega
theorem wrap_succ {i n:Nat} (h:i<n) (hn:n≤9223372036854775807):wrap64 ((i:Int)+1)=((i+1:Nat):Int):=by
 unfold wrap64
 omega
theorem drop_getD {α:Type} (l:List α) (i:Nat) (d:α) (h:i<l.length):l.drop i=l.getD i d::l.drop (i+1):=by
 rw[List.drop_eq_getElem_cons h,List.getD_eq_getElem?_getD,List.getElem?_eq_getElem h]
 rfl
theorem rd_nat (xs:List Int) (i:Nat):rd xs (i:Int)=xs.getD i 0:=by
 unfold rd
 rw[Int.toNat_natCast]
theorem getD_mem {α:Type} {l:List α} {i:Nat} {d:α} (h:i<l.length):l.getD i d∈l:=by
 rw[List.getD_eq_getElem?_getD,List.getElem?_eq_getElem h]
 exact List.getElem_mem h
theorem getD_set {α:Type} (l:List α) (i j:Nat) (a d:α) (h:i<l.length):(l.set i a).getD j d=if i=j then a else l.getD j d:=by
 rw[List.getD_eq_getElem?_getD,List.getD_eq_getElem?_getD,List.getElem?_set]
 by_cases e:i=j
 ·subst e;simp[h]
 ·simp[e]
theorem rd_set (l:List Int) (i j a:Int) (h0:0≤i) (h1:i<l.length) (h2:0≤j):rd (l.set i.toNat a) j=if i=j then a else rd l j:=by
 unfold rd
 rw[getD_set _ _ _ _ _ (by omega)]
 by_cases e:i=j
 ·rw[Yx e,Yx (by omega)]
 ·rw[Yy e,Yy (by omega)]
theorem ext_rd {a b:List Int} (hl:a.length=b.length) (h: ∀ i:Nat,i<a.length→rd a i=rd b i):a=b:=by
 apply List.ext_getElem hl
 intro i h1 h2
 have:=h i h1
 rw[rd_nat,rd_nat,List.getD_eq_getElem?_getD,List.getD_eq_getElem?_getD,List.getElem?_eq_getElem h1,List.getElem?_eq_getElem h2] at this
 exact this
end Q
namespace H
open P Q
def stepsR (l:List S74) (F:List Int):Nat→List S38
 |0=>[]
 |k+1=>stepsR l F k ++ (if F.getD k 0<(rd_T74 l k).f2 then [⟨k,false⟩] else []) ++ (if 0<F.getD k 0 then [⟨k,true⟩] else [])
theorem mem_stepsR (l:List S74) (F:List Int) (k:Nat) (s:S38):s∈stepsR l F k↔(∃ i:Nat,i<k∧s.f0=i)∧0<stRoom l F s:=by
 induction k with
 |zero=>
  constructor
  ·intro h;cases h
  ·rintro⟨⟨i,h,_⟩,_⟩;omega
 |succ k ih=>
  unfold stepsR
  rw[List.mem_append,List.mem_append,ih]
  constructor
  ·rintro((⟨⟨i,h1,h2⟩,h3⟩|h)|h)
   ·exact⟨⟨i,by omega,h2⟩,h3⟩
   ·split at h
    ·rename_i he
     rw[List.mem_singleton] at h
     subst h
     refine⟨⟨k,by omega,rfl⟩,?_⟩
     unfold stRoom
     simp only[Bool.false_eq_true,if_false,Int.toNat_natCast]
     omega
    ·cases h
   ·split at h
    ·rename_i he
     rw[List.mem_singleton] at h
     subst h
     refine⟨⟨k,by omega,rfl⟩,?_⟩
     unfold stRoom
     simp only[if_true,Int.toNat_natCast]
     exact he
    ·cases h
  ·rintro⟨⟨i,h1,h2⟩,h3⟩
   by_cases hi:i<k
   ·exact Or.inl (Or.inl ⟨⟨i,hi,h2⟩,h3⟩)
   ·have e:i=k:=by omega
    subst e
    obtain⟨x,y⟩:=s
    simp only at h2
    subst h2
    unfold stRoom at h3
    cases y
    ·simp only[Bool.false_eq_true,if_false,Int.toNat_natCast] at h3
     exact Or.inl (Or.inr (by rw[Yx (by omega)];exact List.mem_singleton.2 rfl))
    ·simp only[if_true,Int.toNat_natCast] at h3
     exact Or.inr (by rw[Yx h3];exact List.mem_singleton.2 rfl)
theorem stFrom_in {l:List S74} {F:List Int} {n:Nat} (hr:Right l F n) {s:S38} (hs:StepOf l s):0≤stFrom l s∧stFrom l s<n:=by
 obtain⟨i,h1,h2⟩:=hs
 have:=hr.ends i h1
 unfold stFrom
 rw[h2]
 split
 ·exact this.2
 ·exact this.1
theorem stepsR_of {l:List S74} {F:List Int} {n:Nat} (hr:Right l F n): ∀ s,s∈stepsR l F F.length→StepOf l s:=by
 intro s hs
 have h:=((mem_stepsR l F F.length s).1 hs).1
 rw[hr.len] at h
 exact h
end H
namespace Q
open P
def arcErr (n:Int) (a:S74):Int:=
 if a.f0<0∨a.f1<0∨a.f2<0∨a.f3<0∨n≤a.f0∨n≤a.f1 then 51 else if 1048576<a.f2∨1048576<a.f3 then 2 else 0
def arcsErr (n:Int):List S74→Int
 |[]=>0
 |a::l=>if arcErr n a=0 then arcsErr n l else arcErr n a
def netErr (n:Int) (l:List S74):Int:=if n<1 then 51 else if n>50 then 2 else if (l.length:Int)>200 then 2 else arcsErr n l
structure ArcOk (n:Int) (a:S74):Prop where
 f0:0≤a.f0
 f1:0≤a.f1
 f2:0≤a.f2
 f3:0≤a.f3
 h0:a.f0<n
 h1:a.f1<n
 h2:a.f2≤1048576
 h3:a.f3≤1048576
structure NetOk (n:Int) (l:List S74):Prop where
 lo:1≤n
 hi:n≤50
 len:l.length≤200
 arcs: ∀ a∈l,ArcOk n a
theorem arcErr_ok {n:Int} {a:S74} (h:arcErr n a=0):ArcOk n a:=by
 unfold arcErr at h
 split at h
 ·omega
 ·split at h
  ·omega
  ·constructor<;>omega
theorem arcsErr_ok {n:Int} : ∀ {l:List S74},arcsErr n l=0→ ∀ a∈l,ArcOk n a
 |[],_,a,ha=>by cases ha
 |b::l,h,a,ha=>by
  unfold arcsErr at h
  split at h
  ·rename_i hb
   rcases List.mem_cons.1 ha with rfl|ha
   ·exact arcErr_ok hb
   ·exact arcsErr_ok h a ha
  ·exact absurd h (by assumption)
theorem netErr_ok {n:Int} {l:List S74} (h:netErr n l=0):NetOk n l:=by
 unfold netErr at h
 split at h
 ·omega
 ·split at h
  ·omega
  ·split at h
   ·omega
   ·exact⟨by omega,by omega,by omega,arcsErr_ok h⟩
theorem arcOk_err {n:Int} {a:S74} (h:ArcOk n a):arcErr n a=0:=by
 have:=h.f0;have:=h.f1;have:=h.f2;have:=h.f3;have:=h.h0;have:=h.h1;have:=h.h2;have:=h.h3
 unfold arcErr
 rw[Yy (by omega),Yy (by omega)]
theorem arcsOk_err {n:Int} : ∀ {l:List S74},(∀ a∈l,ArcOk n a)→arcsErr n l=0
 |[],_=>rfl
 |b::l,h=>by
  unfold arcsErr
  rw[Yx (arcOk_err (h b (List.mem_cons_self ..)))]
  exact arcsOk_err fun a ha=>h a (List.mem_cons_of_mem _ ha)
theorem netOk_err {n:Int} {l:List S74} (h:NetOk n l):netErr n l=0:=by
 have:=h.lo;have:=h.hi;have:=h.len
 unfold netErr
 rw[Yy (by omega),Yy (by omega),Yy (by omega),arcsOk_err h.arcs]
theorem NetOk.at_ {n:Int} {l:List S74} (h:NetOk n l) {i:Int} (h0:0≤i) (h1:i<l.length):ArcOk n (rd_T74 l i):=h.arcs _ (getD_mem (by omega))
theorem nodes_eq (n:Int):netfmt_nodes.f n=some (if n<1 then 51 else if n>50 then 2 else 0):=by
 unfold netfmt_nodes.f
 split
 ·rfl
 ·split<;>rfl
theorem arc_ev (n:Int) (a:S74):Ev (fun k=>netfmt_arc.f k n a.f0 a.f1 a.f2 a.f3) (arcErr n a):=by
 unfold netfmt_arc.f arcErr
 refine Ev.ite (fun h=> ?_) (fun h=> ?_)
 ·refine Ev.succ ?_;simp only[netfmt_arc.j0]
  repeat(first|exact Ev.now _|with_reducible refine Ev.pos (by first|assumption|omega) ?_|with_reducible refine Ev.neg (by first|assumption|omega) ?_|with_reducible refine Ev.let_ ?_)
  exact Ev.done (by unfold mn at h;rw[Yx (by omega)])
 ·refine Ev.succ ?_;simp only[netfmt_arc.j0]
  unfold mn at h
  unfold mx
  refine Ev.ite (fun g=> ?_) (fun g=> ?_)
  ·have g:=Yu g
   exact Ev.done (by rw[Yx (by omega)])
  ·have g:=of_decide_eq_false (Bool.eq_false_iff.2 g)
   refine Ev.ite (fun g1=> ?_) (fun g1=> ?_)
   ·exact Ev.done (by rw[Yy (by omega),Yx (by omega)])
   ·refine Ev.ite (fun g2=> ?_) (fun g2=> ?_)
    ·exact Ev.done (by rw[Yy (by omega),Yx (by omega)])
    ·exact Ev.done (by rw[Yy (by omega),Yy (by omega)])
theorem check_l0 (l:List S74) (n:Int) (b:Bool) (hl:l.length≤9223372036854775807) (d:Nat): ∀ i:Nat,i+d=l.length→
  Ev (fun k=>netfmt_Check.l0 k l (l.length:Int) (i:Int) n b l) (arcsErr n (l.drop i)):=by
 induction d with
 |zero=>
  intro i hi
  refine Ev.succ ?_;simp only[netfmt_Check.l0]
  repeat(first|exact Ev.now _|with_reducible refine Ev.pos (by first|assumption|omega) ?_|with_reducible refine Ev.neg (by first|assumption|omega) ?_|with_reducible refine Ev.let_ ?_)
  rw[List.drop_of_length_le (by omega)]
  exact Ev.now _
 |succ d ih=>
  intro i hi
  refine Ev.succ ?_;simp only[netfmt_Check.l0]
  repeat(first|exact Ev.now _|with_reducible refine Ev.pos (by first|assumption|omega) ?_|with_reducible refine Ev.neg (by first|assumption|omega) ?_|with_reducible refine Ev.let_ ?_)
  refine Ev.bind (arc_ev n (rd_T74 l i)) ?_
  rw[drop_getD l i z74 (by omega)]
  have hr:rd_T74 l (i:Int)=l.getD i z74:=by unfold rd_T74;rw[Int.toNat_natCast]
  rw[hr]
  unfold arcsErr
  refine Ev.ite (fun h=> ?_) (fun h=> ?_)
  ·rw[Yx h,wrap_succ (n:=l.length) (by omega) hl]
   exact ih (i+1) (by omega)
  ·rw[Yy h]
   exact Ev.now _
theorem check_ev (n:Int) (b:Bool) (l:List S74):Ev (fun k=>netfmt_Check.f k n b l) (netErr n l):=by
 unfold netfmt_Check.f netErr
 refine Ev.call (nodes_eq n) ?_
 by_cases h:n<1
 ·rw[Yx h,Yx h]
  repeat(first|exact Ev.now _|with_reducible refine Ev.pos (by first|assumption|omega) ?_|with_reducible refine Ev.neg (by first|assumption|omega) ?_|with_reducible refine Ev.let_ ?_)
 ·rw[Yy h,Yy h]
  by_cases h2:n>50
  ·rw[Yx h2,Yx h2]
   repeat(first|exact Ev.now _|with_reducible refine Ev.pos (by first|assumption|omega) ?_|with_reducible refine Ev.neg (by first|assumption|omega) ?_|with_reducible refine Ev.let_ ?_)
  ·rw[Yy h2,Yy h2]
   repeat(first|exact Ev.now _|with_reducible refine Ev.pos (by first|assumption|omega) ?_|with_reducible refine Ev.neg (by first|assumption|omega) ?_|with_reducible refine Ev.let_ ?_)
   refine Ev.ite (fun g=> ?_) (fun g=> ?_)
   ·rw[Yx g]
    exact Ev.now _
   ·rw[Yy g]
    exact check_l0 l n b (by omega) l.length 0 (by omega)
end Q
namespace P
attribute [local go_sem] max2_int min2_int max_two min_two max_three min_three max_four min_four
def static_Asked.l0:Nat→List Int→Int→Int→Int→Bool→List (S74)→Option (Int)
 |0,_,_,_,_,_,_=>none
 |k+1,x19,x20,x21,x185000,x185001,x185002=>if x21<x20 then(if 0≤x21 then(if x21<(x19.length:Int) then(if (rd x19 x21)<0 then(some 71) else(if x21<(x185002.length:Int) then(if (rd x19 x21)>((rd_T74 x185002 x21).f2) then(some 71) else(static_Asked.l0 k x19 x20 (wrap64 (x21+1)) x185000 x185001 x185002)) else(none))) else(none)) else(none)) else(some 0)
def static_Asked.f (k:Nat) (Zc:Int) (Zb:Bool) (Za:List (S74)) (l1:List Int):Option (Int):=(netfmt_Check.f k Zc Zb Za).bind fun t185=>(if t185=0 then(if (l1.length:Int)=(Za.length:Int) then(static_Asked.l0 k l1 (l1.length:Int) 0 Zc Zb Za) else(some 71)) else(some t185))
set_option maxHeartbeats 8000000 in
set_option maxRecDepth 100000 in
theorem static_Asked.calls (k:Nat) (Zc:Int) (Zb:Bool) (Ze:Option Addr) (Zd:Nat) (Za:List (S74)) (A1:Option Addr) (c1:Nat) (l1:List Int) (r:Int) (w:World) (Zq:Kd.C k74 w Ze Za.length Za) (Zr:Za.length≤Zd) (hr1:Kd.C (Kd.int .i64) w A1 l1.length l1) (hc1:l1.length≤c1) (h:static_Asked.f k Zc Zb Za l1=some r):
  Calls Try.prog 96 #[.agg #[.int .i64 Zc, .bool Zb, .slice Ze Za.length Zd], .slice A1 l1.length c1] w fun e w'=>e= .returned (.int .i64 r)∧Below w.heap.size w w':=by
 have hu24:=Try.underlying24
 have Zl:=Ya Zq
 have Xd:=Ya Zr
 clear Zq Zr
 have HR1:=Ya hr1
 have HC1:=Ya hc1
 clear hr1 hc1
 have HB:=Ya (Yo w.heap.size w)
 have H:((netfmt_Check.f k Zc Zb Za).bind fun t185=>(if t185=0 then(if (l1.length:Int)=(Za.length:Int) then(static_Asked.l0 k l1 (l1.length:Int) 0 Zc Zb Za) else(some 71)) else(some t185)))=some r:=h
 clear h
 replace H:=Option.bind_eq_some_iff.mp H
 obtain⟨t185,A30,H⟩:=H
 replace H:(if t185=0 then(if (l1.length:Int)=(Za.length:Int) then(static_Asked.l0 k l1 (l1.length:Int) 0 Zc Zb Za) else(some 71)) else(some t185))=some r:=H
 have A3:=Ya A30
 clear A30
 by_cases c4:t185=0
 rotate_left
 ·rw[Yy c4] at H
  have c4b0:(t185 == 0)=false:=beq_eq_false_iff_ne.mpr c4
  have c4b1:(t185 != 0)=true:=bne_iff_ne.mpr c4
  obtain rfl:=Option.some.inj H
  go_enter Try.func96,Try.ntmps96
  go_wp2_with (first|((with_reducible refine gate_dst (N:=2) rfl ?_);refine Yz ?hg (N:=2) ?hd (cs:= #[.int .i64 Zc, .bool Zb, .slice Ze Za.length Zd]) (t:=24) ?hr ?_;(case hd=>rfl);(case hg=>rfl);(case hr=>first|(go_simp;done)|(go_simp;rfl));intro Wp hg w22 Zf hb;have n0_:=Ya (Yk (by repeat(first|(with_reducible first|exact HB.out|apply Ye|apply Yd|apply Yg)|exact HB.out)) hb);have n1_:=Ya (Zf);have n2_:=Ya ((by rw[hg];exact(Yi (by repeat(first|(with_reducible first|exact HB.out|apply Ye|apply Yd|apply Yg)|exact HB.out))):w.heap.size≤Wp));have n3_:=Ya ((by rw[hg];exact(Yi (by repeat(first|(with_reducible first|exact HB.out|apply Ye|apply Yd|apply Yg)|exact HB.out))):w.heap.size≤Wp));clear HB;have HB:=n0_;have Xg:=n1_;have GW184:=n2_;have GE184:=n3_;clear n0_ n1_ n2_ n3_;clear hb Zf hg;have hcz23_0:w22.cell? ⟨Wp,0,none⟩=some (.int .i64 Zc):=(Yc Xg.out 0).trans rfl;have hcz23_1:w22.cell? ⟨Wp,1,none⟩=some (.bool Zb):=(Yc Xg.out 1).trans rfl;have hcz23_2:w22.cell? ⟨Wp,2,none⟩=some (.slice Ze Za.length Zd):=(Yc Xg.out 2).trans rfl;have hfz23_0:=Yf Xg.out 0;have hfz23_1:=Yf Xg.out 1;have hfz23_2:=Yf Xg.out 2)|((with_reducible refine gate_callee (f:=127) rfl ?_);refine goesL_ (some 9) rfl rfl Try.func127 (by kernel_rfl) rfl #[.agg #[.int .i64 Zc, .bool Zb, .slice Ze Za.length Zd]] rfl (by(try simp only[List.map_toArray,List.map_cons,List.map_nil]);first|done|rfl|(simp only[List.length_drop,List.length_take];rfl)) ?_;(with_reducible refine(netfmt_Check.calls k Zc Zb _ _ Za t185 _ ?side1 ?side2 A3.out).mono ?_);(case side1=>repeat(first|exact(Yt Zl.out HB.out)|(with_reducible refine Kd.C_alloc ?_ _)|(with_reducible refine Kd.C_drewN ?_ _)|(with_reducible refine Kd.C_drew ?_)));(case side2=>exact Xd.out);rintro e w24 ⟨rfl,hb⟩;refine⟨_,rfl,?_⟩;have n0_:=Ya (Yn (g:=Wp) (o:= .cells #[.int .i64 Zc, .bool Zb, .slice Ze Za.length Zd] 24 (0,0)) (by(with_reducible repeat(first|refine Yl ?_ _|refine Ym ?_|refine Yj ?_ _));exact Xg.out) hb);have n1_:=Ya (Yk (by repeat(first|(with_reducible first|exact HB.out|apply Ye|apply Yd|apply Yg|refine Yh ?_ GE184.out)|exact HB.out)) hb);clear Xg;clear HB;have Xg:=n0_;have HB:=n1_;clear n0_ n1_;(try clear hb);(try clear hb2);(try clear hk);(try clear hi)))
  go_ret
  exact⟨by first|rfl|(simp[errW_none,errW_some]<;>rfl)|(simp[*,errW_none,errW_some]<;>rfl),by repeat(first|(with_reducible first|exact HB.out|apply Ye|apply Yd|apply Yg|refine Yh ?_ GE184.out)|exact HB.out)⟩
 rw[Yx c4] at H
 have c4b0:(t185 == 0)=true:=beq_iff_eq.mpr c4
 have c4b1:(t185 != 0)=false:=bne_eq_false_iff_eq.mpr c4
 clear c4
 by_cases c5:(l1.length:Int)=(Za.length:Int)
 rotate_left
 ·rw[Yy c5] at H
  have c5b0:((l1.length:Int) == (Za.length:Int))=false:=beq_eq_false_iff_ne.mpr c5
  have c5b1:((l1.length:Int) != (Za.length:Int))=true:=bne_iff_ne.mpr c5
  have c5b2:(l1.length == Za.length)=false:=by first|simpa using c5|(simp at c5 ⊢;omega)
  obtain rfl:=Option.some.inj H
  go_enter Try.func96,Try.ntmps96
  go_wp2_with (first|((with_reducible refine gate_dst (N:=2) rfl ?_);refine Yz ?hg (N:=2) ?hd (cs:= #[.int .i64 Zc, .bool Zb, .slice Ze Za.length Zd]) (t:=24) ?hr ?_;(case hd=>rfl);(case hg=>rfl);(case hr=>first|(go_simp;done)|(go_simp;rfl));intro Wp hg w18 Zf hb;have n0_:=Ya (Yk (by repeat(first|(with_reducible first|exact HB.out|apply Ye|apply Yd|apply Yg)|exact HB.out)) hb);have n1_:=Ya (Zf);have n2_:=Ya ((by rw[hg];exact(Yi (by repeat(first|(with_reducible first|exact HB.out|apply Ye|apply Yd|apply Yg)|exact HB.out))):w.heap.size≤Wp));have n3_:=Ya ((by rw[hg];exact(Yi (by repeat(first|(with_reducible first|exact HB.out|apply Ye|apply Yd|apply Yg)|exact HB.out))):w.heap.size≤Wp));clear HB;have HB:=n0_;have Xg:=n1_;have GW184:=n2_;have GE184:=n3_;clear n0_ n1_ n2_ n3_;clear hb Zf hg;have hcz19_0:w18.cell? ⟨Wp,0,none⟩=some (.int .i64 Zc):=(Yc Xg.out 0).trans rfl;have hcz19_1:w18.cell? ⟨Wp,1,none⟩=some (.bool Zb):=(Yc Xg.out 1).trans rfl;have hcz19_2:w18.cell? ⟨Wp,2,none⟩=some (.slice Ze Za.length Zd):=(Yc Xg.out 2).trans rfl;have hfz19_0:=Yf Xg.out 0;have hfz19_1:=Yf Xg.out 1;have hfz19_2:=Yf Xg.out 2)|((with_reducible refine gate_callee (f:=127) rfl ?_);refine goesL_ (some 9) rfl rfl Try.func127 (by kernel_rfl) rfl #[.agg #[.int .i64 Zc, .bool Zb, .slice Ze Za.length Zd]] rfl (by(try simp only[List.map_toArray,List.map_cons,List.map_nil]);first|done|rfl|(simp only[List.length_drop,List.length_take];rfl)) ?_;(with_reducible refine(netfmt_Check.calls k Zc Zb _ _ Za t185 _ ?side1 ?side2 A3.out).mono ?_);(case side1=>repeat(first|exact(Yt Zl.out HB.out)|(with_reducible refine Kd.C_alloc ?_ _)|(with_reducible refine Kd.C_drewN ?_ _)|(with_reducible refine Kd.C_drew ?_)));(case side2=>exact Xd.out);rintro e w20 ⟨rfl,hb⟩;refine⟨_,rfl,?_⟩;have n0_:=Ya (Yn (g:=Wp) (o:= .cells #[.int .i64 Zc, .bool Zb, .slice Ze Za.length Zd] 24 (0,0)) (by(with_reducible repeat(first|refine Yl ?_ _|refine Ym ?_|refine Yj ?_ _));exact Xg.out) hb);have n1_:=Ya (Yk (by repeat(first|(with_reducible first|exact HB.out|apply Ye|apply Yd|apply Yg|refine Yh ?_ GE184.out)|exact HB.out)) hb);clear Xg;clear HB;have Xg:=n0_;have HB:=n1_;clear n0_ n1_;(try clear hb);(try clear hb2);(try clear hk);(try clear hi);have hcz21_0:w20.cell? ⟨Wp,0,none⟩=some (.int .i64 Zc):=(Yc Xg.out 0).trans rfl;have hcz21_1:w20.cell? ⟨Wp,1,none⟩=some (.bool Zb):=(Yc Xg.out 1).trans rfl;have hcz21_2:w20.cell? ⟨Wp,2,none⟩=some (.slice Ze Za.length Zd):=(Yc Xg.out 2).trans rfl;have hfz21_0:=Yf Xg.out 0;have hfz21_1:=Yf Xg.out 1;have hfz21_2:=Yf Xg.out 2))
  go_ret
  exact⟨by first|rfl|(simp[errW_none,errW_some]<;>rfl)|(simp[*,errW_none,errW_some]<;>rfl),by repeat(first|(with_reducible first|exact HB.out|apply Ye|apply Yd|apply Yg|refine Yh ?_ GE184.out)|exact HB.out)⟩
 rw[Yx c5] at H
 have c5b0:((l1.length:Int) == (Za.length:Int))=true:=beq_iff_eq.mpr c5
 have c5b1:((l1.length:Int) != (Za.length:Int))=false:=bne_eq_false_iff_eq.mpr c5
 have c5b2:(l1.length == Za.length)=true:=by first|simpa using c5|(simp at c5 ⊢;omega)
 clear c5
 have H':=Ya H
 clear H
 go_enter Try.func96,Try.ntmps96
 go_wp2_with (first|((with_reducible refine gate_dst (N:=2) rfl ?_);refine Yz ?hg (N:=2) ?hd (cs:= #[.int .i64 Zc, .bool Zb, .slice Ze Za.length Zd]) (t:=24) ?hr ?_;(case hd=>rfl);(case hg=>rfl);(case hr=>first|(go_simp;done)|(go_simp;rfl));intro Wp hg w6 Zf hb;have n0_:=Ya (Yk (by repeat(first|(with_reducible first|exact HB.out|apply Ye|apply Yd|apply Yg)|exact HB.out)) hb);have n1_:=Ya (Zf);have n2_:=Ya ((by rw[hg];exact(Yi (by repeat(first|(with_reducible first|exact HB.out|apply Ye|apply Yd|apply Yg)|exact HB.out))):w.heap.size≤Wp));have n3_:=Ya ((by rw[hg];exact(Yi (by repeat(first|(with_reducible first|exact HB.out|apply Ye|apply Yd|apply Yg)|exact HB.out))):w.heap.size≤Wp));clear HB;have HB:=n0_;have Xg:=n1_;have GW184:=n2_;have GE184:=n3_;clear n0_ n1_ n2_ n3_;clear hb Zf hg;have hcz7_0:w6.cell? ⟨Wp,0,none⟩=some (.int .i64 Zc):=(Yc Xg.out 0).trans rfl;have hcz7_1:w6.cell? ⟨Wp,1,none⟩=some (.bool Zb):=(Yc Xg.out 1).trans rfl;have hcz7_2:w6.cell? ⟨Wp,2,none⟩=some (.slice Ze Za.length Zd):=(Yc Xg.out 2).trans rfl;have hfz7_0:=Yf Xg.out 0;have hfz7_1:=Yf Xg.out 1;have hfz7_2:=Yf Xg.out 2)|((with_reducible refine gate_callee (f:=127) rfl ?_);refine goesL_ (some 9) rfl rfl Try.func127 (by kernel_rfl) rfl #[.agg #[.int .i64 Zc, .bool Zb, .slice Ze Za.length Zd]] rfl (by(try simp only[List.map_toArray,List.map_cons,List.map_nil]);first|done|rfl|(simp only[List.length_drop,List.length_take];rfl)) ?_;(with_reducible refine(netfmt_Check.calls k Zc Zb _ _ Za t185 _ ?side1 ?side2 A3.out).mono ?_);(case side1=>repeat(first|exact(Yt Zl.out HB.out)|(with_reducible refine Kd.C_alloc ?_ _)|(with_reducible refine Kd.C_drewN ?_ _)|(with_reducible refine Kd.C_drew ?_)));(case side2=>exact Xd.out);rintro e w8 ⟨rfl,hb⟩;refine⟨_,rfl,?_⟩;have n0_:=Ya (Yn (g:=Wp) (o:= .cells #[.int .i64 Zc, .bool Zb, .slice Ze Za.length Zd] 24 (0,0)) (by(with_reducible repeat(first|refine Yl ?_ _|refine Ym ?_|refine Yj ?_ _));exact Xg.out) hb);have n1_:=Ya (Yk (by repeat(first|(with_reducible first|exact HB.out|apply Ye|apply Yd|apply Yg|refine Yh ?_ GE184.out)|exact HB.out)) hb);clear Xg;clear HB;have Xg:=n0_;have HB:=n1_;clear n0_ n1_;(try clear hb);(try clear hb2);(try clear hk);(try clear hi);have Jr:w8.cell? ⟨Wp,0,none⟩=some (.int .i64 Zc):=(Yc Xg.out 0).trans rfl;have Js:w8.cell? ⟨Wp,1,none⟩=some (.bool Zb):=(Yc Xg.out 1).trans rfl;have hcz9_2:w8.cell? ⟨Wp,2,none⟩=some (.slice Ze Za.length Zd):=(Yc Xg.out 2).trans rfl;have Jt:=Yf Xg.out 0;have Ju:=Yf Xg.out 1;have hfz9_2:=Yf Xg.out 2))
 go_loopg [21] k (fun kq v21 w'=> ∃ (Wh:Int),v21= .int .i64 Wh∧Aside0 (static_Asked.l0 kq l1 (l1.length:Int) Wh Zc Zb Za=some r)∧Aside0 (kq≤k)∧Aside0 (w'.heap[Wp]? =some (.cells #[.int .i64 Zc, .bool Zb,(.slice Ze Za.length Zd)] 24 (0,0)))∧Aside0 (Below w.heap.size w w'))
 case atStart=>exact⟨(0),(by first|rfl|(simp;done)|(simp[*];done)),H',⟨Nat.le_refl _⟩,⟨by(with_reducible repeat(first|refine Yl ?_ _|refine Ym ?_|refine Yj ?_ _));exact Xg.out⟩,⟨by repeat(first|(with_reducible first|exact HB.out|apply Ye|apply Yd|apply Yg|refine Yh ?_ GE184.out)|exact HB.out)⟩⟩
 case round=>
  clear H'
  try clear c1
  try clear p2
  try clear c4
  try clear c4b0
  try clear c4b1
  try clear c5
  try clear c5b0
  try clear c5b1
  try clear c5b2
  try clear c9
  try clear hcz7_0
  try clear hcz7_1
  try clear hcz7_2
  try clear Jr
  try clear Js
  try clear hcz9_2
  try clear hfz7_0
  try clear hfz7_1
  try clear hfz7_2
  try clear Jt
  try clear Ju
  try clear hfz9_2
  obtain⟨Wh,rfl,HA,HK1,Xg,HB⟩:=hrel
  cases gk with
  |zero=>exact absurd HA.out (by simp[static_Asked.l0])
  |succ k1=>
   have H:=HA.out
   clear HA
   simp only[static_Asked.l0] at H
   by_cases c10:Wh<(l1.length:Int)
   rotate_left
   ·rw[Yy c10] at H
    have c10b0:decide (Wh<(l1.length:Int))=false:=Yw c10
    clear c10
    obtain rfl:=Option.some.inj H
    go_wp2
    go_ret
    exact⟨by first|rfl|(simp[errW_none,errW_some]<;>rfl)|(simp[*,errW_none,errW_some]<;>rfl),by repeat(first|(with_reducible first|exact HB.out|apply Ye|apply Yd|apply Yg|refine Yh ?_ GE184.out)|exact HB.out)⟩
   rw[Yx c10] at H
   have c10b0:decide (Wh<(l1.length:Int))=true:=Yv c10
   clear c10
   by_cases c11:0≤Wh
   rotate_left
   ·rw[Yy c11] at H
    exact absurd H (by simp)
   rw[Yx c11] at H
   have c11b0:decide (0≤Wh)=true:=Yv c11
   clear c11
   by_cases c12:Wh<(l1.length:Int)
   rotate_left
   ·rw[Yy c12] at H
    exact absurd H (by simp)
   rw[Yx c12] at H
   have c12b0:decide (Wh<(l1.length:Int))=true:=Yv c12
   clear c12
   by_cases c13:(rd l1 Wh)<0
   ·rw[Yx c13] at H
    have c13b0:decide ((rd l1 Wh)<0)=true:=Yv c13
    clear c13
    obtain rfl:=Option.some.inj H
    have p186:0≤(Wh:Int):=Yu (by first|(with_reducible assumption)|assumption)
    have q186:Wh<(l1.length:Int):=Yu (by first|(with_reducible assumption)|assumption)
    obtain⟨ad186,e186,Uv⟩:=Kd.at_int HR1.out Wh p186 q186
    cases e186
    replace Uv:=(HB.out.cell (Yb w _ Uv)).trans Uv
    replace p186:=eq_true p186
    replace q186:=eq_true q186
    go_wp2
    go_ret
    exact⟨by first|rfl|(simp[errW_none,errW_some]<;>rfl)|(simp[*,errW_none,errW_some]<;>rfl),by repeat(first|(with_reducible first|exact HB.out|apply Ye|apply Yd|apply Yg|refine Yh ?_ GE184.out)|exact HB.out)⟩
   rw[Yy c13] at H
   have c13b0:decide ((rd l1 Wh)<0)=false:=Yw c13
   clear c13
   by_cases c14:Wh<(Za.length:Int)
   rotate_left
   ·rw[Yy c14] at H
    exact absurd H (by simp)
   rw[Yx c14] at H
   have c14b0:decide (Wh<(Za.length:Int))=true:=Yv c14
   clear c14
   by_cases c15:(rd l1 Wh)>((rd_T74 Za Wh).f2)
   ·rw[Yx c15] at H
    have c15b0:decide (((rd_T74 Za Wh).f2)<(rd l1 Wh))=true:=Yv c15
    clear c15
    obtain rfl:=Option.some.inj H
    have p186:0≤(Wh:Int):=Yu (by first|(with_reducible assumption)|assumption)
    have q186:Wh<(l1.length:Int):=Yu (by first|(with_reducible assumption)|assumption)
    obtain⟨ad186,e186,Uv⟩:=Kd.at_int HR1.out Wh p186 q186
    cases e186
    replace Uv:=(HB.out.cell (Yb w _ Uv)).trans Uv
    replace p186:=eq_true p186
    replace q186:=eq_true q186
    have hcz16_0:wr.cell? ⟨Wp,0,none⟩=some (.int .i64 Zc):=(Yc Xg.out 0).trans rfl
    have hcz16_1:wr.cell? ⟨Wp,1,none⟩=some (.bool Zb):=(Yc Xg.out 1).trans rfl
    have hcz16_2:wr.cell? ⟨Wp,2,none⟩=some (.slice Ze Za.length Zd):=(Yc Xg.out 2).trans rfl
    have hfz16_0:=Yf Xg.out 0
    have hfz16_1:=Yf Xg.out 1
    have hfz16_2:=Yf Xg.out 2
    have p187:0≤(Wh:Int):=Yu (by first|(with_reducible assumption)|assumption)
    have q187:Wh<(Za.length:Int):=Yu (by first|(with_reducible assumption)|assumption)
    obtain⟨ad187,e187,hx187_0,hx187_1,hx187_2,hx187_3⟩:=at_T74 Zl.out Wh p187 q187
    cases e187
    replace hx187_0:=(HB.out.cell (Yb w _ hx187_0)).trans hx187_0
    replace hx187_1:=(HB.out.cell (Yb w _ hx187_1)).trans hx187_1
    replace hx187_2:=(HB.out.cell (Yb w _ hx187_2)).trans hx187_2
    replace hx187_3:=(HB.out.cell (Yb w _ hx187_3)).trans hx187_3
    replace p187:=eq_true p187
    replace q187:=eq_true q187
    go_wp2
    go_ret
    exact⟨by first|rfl|(simp[errW_none,errW_some]<;>rfl)|(simp[*,errW_none,errW_some]<;>rfl),by repeat(first|(with_reducible first|exact HB.out|apply Ye|apply Yd|apply Yg|refine Yh ?_ GE184.out)|exact HB.out)⟩
   rw[Yy c15] at H
   have c15b0:decide (((rd_T74 Za Wh).f2)<(rd l1 Wh))=false:=Yw c15
   clear c15
   have H':=Ya H
   clear H
   have p186:0≤(Wh:Int):=Yu (by first|(with_reducible assumption)|assumption)
   have q186:Wh<(l1.length:Int):=Yu (by first|(with_reducible assumption)|assumption)
   obtain⟨ad186,e186,Uv⟩:=Kd.at_int HR1.out Wh p186 q186
   cases e186
   replace Uv:=(HB.out.cell (Yb w _ Uv)).trans Uv
   replace p186:=eq_true p186
   replace q186:=eq_true q186
   have Uh:wr.cell? ⟨Wp,0,none⟩=some (.int .i64 Zc):=(Yc Xg.out 0).trans rfl
   have Ui:wr.cell? ⟨Wp,1,none⟩=some (.bool Zb):=(Yc Xg.out 1).trans rfl
   have Jk:wr.cell? ⟨Wp,2,none⟩=some (.slice Ze Za.length Zd):=(Yc Xg.out 2).trans rfl
   have Uj:=Yf Xg.out 0
   have Uk:=Yf Xg.out 1
   have Jl:=Yf Xg.out 2
   have p187:0≤(Wh:Int):=Yu (by first|(with_reducible assumption)|assumption)
   have q187:Wh<(Za.length:Int):=Yu (by first|(with_reducible assumption)|assumption)
   obtain⟨ad187,e187,hx187_0,hx187_1,hx187_2,hx187_3⟩:=at_T74 Zl.out Wh p187 q187
   cases e187
   replace hx187_0:=(HB.out.cell (Yb w _ hx187_0)).trans hx187_0
   replace hx187_1:=(HB.out.cell (Yb w _ hx187_1)).trans hx187_1
   replace hx187_2:=(HB.out.cell (Yb w _ hx187_2)).trans hx187_2
   replace hx187_3:=(HB.out.cell (Yb w _ hx187_3)).trans hx187_3
   replace p187:=eq_true p187
   replace q187:=eq_true q187
   go_wp2
   go_roundg k1
   case measure=>have:=HK1.out;omega
   case rel=>exact⟨(wrap64 (Wh+1)),(by first|rfl|(simp;done)|(simp[*];done)),H',⟨by have:=HK1.out;omega⟩,⟨by(with_reducible repeat(first|refine Yl ?_ _|refine Ym ?_|refine Yj ?_ _));exact Xg.out⟩,⟨by repeat(first|(with_reducible first|exact HB.out|apply Ye|apply Yd|apply Yg|refine Yh ?_ GE184.out)|exact HB.out)⟩⟩
end P
namespace Q
open P
def flowB:List S74→List Int→Bool
 |[],[]=>true
 |a::l,x::f=>if x<0 then false else if x>a.f2 then false else flowB l f
 |_,_=>false
def askErr (n:Int) (l:List S74) (f:List Int):Int:=if netErr n l=0 then(if flowB l f=true then 0 else 71) else netErr n l
structure FlowOk (l:List S74) (f:List Int):Prop where
 len:f.length=l.length
 at_: ∀ i:Nat,i<f.length→0≤rd f i∧rd f i≤(rd_T74 l i).f2
theorem rdArc_nat (l:List S74) (i:Nat):rd_T74 l (i:Int)=l.getD i z74:=by unfold rd_T74;rw[Int.toNat_natCast]
theorem flowB_len: ∀ {l:List S74} {f:List Int},flowB l f=true→f.length=l.length
 |[],[],_=>rfl
 |[],_::_,h=>by simp[flowB] at h
 |_::_,[],h=>by simp[flowB] at h
 |a::l,x::f,h=>by
  unfold flowB at h
  split at h
  ·cases h
  ·split at h
   ·cases h
   ·simp[flowB_len h]
theorem flowB_ok: ∀ {l:List S74} {f:List Int},flowB l f=true→ ∀ i:Nat,i<f.length→0≤f.getD i 0∧f.getD i 0≤(l.getD i z74).f2
 |[],[],_,i,hi=>by simp at hi
 |[],_::_,h,_,_=>by simp[flowB] at h
 |_::_,[],h,_,_=>by simp[flowB] at h
 |a::l,x::f,h,i,hi=>by
  unfold flowB at h
  split at h
  ·cases h
  ·split at h
   ·cases h
   ·cases i with
    |zero=>simp;omega
    |succ i=>simpa using flowB_ok h i (by simpa using hi)
theorem flow_ok {l:List S74} {f:List Int} (h:flowB l f=true):FlowOk l f:=
 ⟨flowB_len h,fun i hi=>by rw[rd_nat,rdArc_nat];exact flowB_ok h i hi⟩
theorem flow_mk: ∀ {l:List S74} {f:List Int},f.length=l.length→(∀ i:Nat,i<f.length→0≤f.getD i 0∧f.getD i 0≤(l.getD i z74).f2)→flowB l f=true
 |[],[],_,_=>rfl
 |[],_::_,h,_=>by simp at h
 |_::_,[],h,_=>by simp at h
 |a::l,x::f,h,hf=>by
  have h0:=hf 0 (by simp)
  simp at h0
  unfold flowB
  rw[Yy (by omega),Yy (by omega)]
  exact flow_mk (by simpa using h) (fun i hi=>by simpa using hf (i+1) (by simpa using hi))
theorem FlowOk.b {l:List S74} {f:List Int} (h:FlowOk l f):flowB l f=true:=
 flow_mk h.len fun i hi=>by have:=h.at_ i hi;rwa [rd_nat,rdArc_nat] at this
theorem FlowOk.int {l:List S74} {f:List Int} (h:FlowOk l f) {i:Int} (h0:0≤i) (h1:i<f.length):0≤rd f i∧rd f i≤(rd_T74 l i).f2:=by
 obtain⟨j,rfl⟩:=Int.eq_ofNat_of_zero_le h0
 exact h.at_ j (by omega)
theorem FlowOk.small {n:Int} {l:List S74} {f:List Int} (h:FlowOk l f) (hn:NetOk n l) {i:Int} (h0:0≤i) (h1:i<f.length):0≤rd f i∧rd f i≤1048576:=by
 have h2:=h.int h0 h1
 have h3:=(hn.at_ h0 (by rw[← h.len];exact h1)).h2
 omega
theorem askErr_ok {n:Int} {l:List S74} {f:List Int} (h:askErr n l f=0):NetOk n l∧FlowOk l f:=by
 unfold askErr at h
 split at h
 ·split at h
  ·exact⟨netErr_ok (by assumption),flow_ok (by assumption)⟩
  ·omega
 ·exact absurd h (by assumption)
theorem ask_of {n:Int} {l:List S74} {f:List Int} (h:NetOk n l) (hf:FlowOk l f):askErr n l f=0:=by
 unfold askErr
 rw[Yx (netOk_err h),Yx hf.b]
theorem asked_l0 (l:List S74) (f:List Int) (n:Int) (b:Bool) (hl:l.length≤200) (hf:f.length=l.length) (d:Nat): ∀ i:Nat,i+d=l.length→
  Ev (fun k=>static_Asked.l0 k f (f.length:Int) (i:Int) n b l) (if flowB (l.drop i) (f.drop i)=true then 0 else 71):=by
 induction d with
 |zero=>
  intro i hi
  refine Ev.succ ?_;simp only[static_Asked.l0]
  repeat(first|exact Ev.now _|with_reducible refine Ev.pos (by first|assumption|omega) ?_|with_reducible refine Ev.neg (by first|assumption|omega) ?_|with_reducible refine Ev.let_ ?_)
  rw[List.drop_of_length_le (by omega),List.drop_of_length_le (by omega)]
  exact Ev.now _
 |succ d ih=>
  intro i hi
  refine Ev.succ ?_;simp only[static_Asked.l0]
  repeat(first|exact Ev.now _|with_reducible refine Ev.pos (by first|assumption|omega) ?_|with_reducible refine Ev.neg (by first|assumption|omega) ?_|with_reducible refine Ev.let_ ?_)
  rw[drop_getD l i z74 (by omega),drop_getD f i 0 (by omega),rdArc_nat,rd_nat]
  unfold flowB
  refine Ev.ite (fun h=> ?_) (fun h=> ?_)
  ·rw[Yx h]
   exact Ev.now _
  ·rw[Yy h]
   repeat(first|exact Ev.now _|with_reducible refine Ev.pos (by first|assumption|omega) ?_|with_reducible refine Ev.neg (by first|assumption|omega) ?_|with_reducible refine Ev.let_ ?_)
   refine Ev.ite (fun g=> ?_) (fun g=> ?_)
   ·rw[Yx g]
    exact Ev.now _
   ·rw[Yy g,wrap_succ (n:=l.length) (by omega) (by omega)]
    exact ih (i+1) (by omega)
theorem flowB_ne {l:List S74} {f:List Int} (h: ¬ ((f.length:Int)=(l.length:Int))): ¬ flowB l f=true:=fun g=>h (by rw[flowB_len g])
theorem asked_ev (n:Int) (b:Bool) (l:List S74) (f:List Int):Ev (fun k=>static_Asked.f k n b l f) (askErr n l f):=by
 unfold static_Asked.f askErr
 refine Ev.bind (check_ev n b l) ?_
 refine Ev.ite (fun h=> ?_) (fun h=> ?_)
 ·rw[Yx h]
  have hn:=netErr_ok h
  refine Ev.ite (fun g=> ?_) (fun g=> ?_)
  ·exact asked_l0 l f n b hn.len (by omega) l.length 0 (by omega)
  ·rw[Yy (flowB_ne g)]
   exact Ev.now _
 ·rw[Yy h]
  exact Ev.now _
end Q
namespace Q
open P
def bal:List S74→List Int→Int→Int
 |a::l,x::f,v=>(if a.f0=v then x else 0) - (if a.f1=v then x else 0)+bal l f v
 |_,_,_=>0
theorem bal_cons (a:S74) (l:List S74) (x:Int) (f:List Int) (v:Int):bal (a::l) (x::f) v=(if a.f0=v then x else 0) - (if a.f1=v then x else 0)+bal l f v:=rfl
def balOf (n:Int) (l:List S74) (f:List Int):List Int:=(List.range n.toNat).map fun v:Nat=>bal l f v
theorem balOf_len (n:Int) (l:List S74) (f:List Int):(balOf n l f).length=n.toNat:=by simp[balOf]
theorem rd_balOf {n:Int} {l:List S74} {f:List Int} {v:Int} (h0:0≤v) (h1:v<n):rd (balOf n l f) v=bal l f v:=by
 obtain⟨j,rfl⟩:=Int.eq_ofNat_of_zero_le h0
 have hj:j<n.toNat:=by omega
 rw[rd_nat,balOf,List.getD_eq_getElem?_getD]
 simp[hj]
def balRes (n:Int) (l:List S74) (f:List Int):List Int × Int:=if askErr n l f=0 then(balOf n l f,0) else([],askErr n l f)
theorem balRes_ok {n:Int} {l:List S74} {f:List Int} (h:askErr n l f=0):balRes n l f=(balOf n l f,0):=by unfold balRes;rw[Yx h]
theorem balRes_no {n:Int} {l:List S74} {f:List Int} (h: ¬ askErr n l f=0):balRes n l f=([],askErr n l f):=by unfold balRes;rw[Yy h]
end Q
namespace H
open P Q
def goS (F:List Int) (s:S38) (k:Int):List Int:=F.set s.f0.toNat (if s.f1 then F.getD s.f0.toNat 0 - k else F.getD s.f0.toNat 0+k)
def pushW (F:List Int) (k:Int) (L:List S38):List Int:=L.foldl (fun F s=>goS F s k) F
theorem goS_len (F:List Int) (s:S38) (k:Int):(goS F s k).length=F.length:=by simp[goS]
theorem stRoom_in {l:List S74} {F:List Int} {n:Nat} (hr:Right l F n) {s:S38} (hs:StepOf l s):0≤stRoom l F s∧stRoom l F s≤1048576:=by
 obtain⟨i,h1,h2⟩:=hs
 have:=hr.nums i h1
 unfold stRoom
 rw[h2,Int.toNat_natCast]
 split<;>omega
theorem Right.go {l:List S74} {F:List Int} {n:Nat} (hr:Right l F n) {s:S38} (hs:StepOf l s) {k:Int} (h0:0≤k) (hk:k≤stRoom l F s):Right l (goS F s k) n:=by
 obtain⟨i,h1,h2⟩:=hs
 have hi:=hr.nums i h1
 have hl:=hr.len
 refine⟨hr.pos,hr.fifty,hr.arcs,by rw[goS_len];exact hl,hr.ends,fun j hj=> ?_⟩
 have h3:=hr.nums j hj
 unfold stRoom at hk
 rw[h2,Int.toNat_natCast] at hk
 unfold goS
 rw[h2,Int.toNat_natCast]
 by_cases e:i=j
 ·subst e
  rw[getD_set_eq _ _ _ _ (by omega)]
  cases hb:s.f1<;>rw[hb] at hk<;>simp only[Bool.false_eq_true,if_false,if_true] at hk ⊢ <;>omega
 ·rw[getD_set_ne _ _ _ _ _ e]
  exact h3
theorem room_other {l:List S74} {F:List Int} {s s':S38} (hs:StepOf l s) (hs':StepOf l s') (k:Int) (h:s.f0≠s'.f0):stRoom l (goS F s k) s'=stRoom l F s':=by
 obtain⟨i,h1,h2⟩:=hs
 obtain⟨j,h3,h4⟩:=hs'
 unfold stRoom goS
 rw[h2,h4,Int.toNat_natCast,Int.toNat_natCast,getD_set_ne _ _ _ _ _ (fun e=>h (by rw[h2,h4,e]))]
theorem Right.pushW {l:List S74} {n:Nat} {k:Int} (h0:0≤k) (L:List S38): ∀ {F:List Int},Right l F n→(∀ s,s∈L→StepOf l s∧k≤stRoom l F s)→L.Pairwise (fun a b=>a.f0≠b.f0)→Right l (H.pushW F k L) n:=by
 induction L with
 |nil=>intro F hr _ _;exact hr
 |cons s L ih=>
  intro F hr h hp
  rw[List.pairwise_cons] at hp
  have hs:=h s List.mem_cons_self
  refine ih (hr.go hs.1 h0 hs.2) (fun x hx=> ?_) hp.2
  have hx2:=h x (List.mem_cons_of_mem _ hx)
  exact⟨hx2.1,by rw[room_other hs.1 hx2.1 k (hp.1 x hx)];exact hx2.2⟩
theorem bal_set (l:List S74) (v:Int): ∀ (f:List Int) (i:Nat) (y:Int),f.length=l.length→i<l.length→
  bal l (f.set i y) v=bal l f v+(if (rd_T74 l i).f0=v then y - f.getD i 0 else 0) - (if (rd_T74 l i).f1=v then y - f.getD i 0 else 0):=by
 induction l with
 |nil=>intro f i y h hi;simp at hi
 |cons a l ih=>
  intro f i y h hi
  cases f with
  |nil=>simp at h
  |cons x f=>
   cases i with
   |zero=>
    have e:rd_T74 (a::l) ((0:Nat):Int)=a:=rfl
    rw[e]
    simp only[List.set_cons_zero,List.getD_cons_zero,bal_cons]
    split<;>split<;>omega
   |succ i=>
    have e:rd_T74 (a::l) ((i+1:Nat):Int)=rd_T74 l (i:Int):=by rw[rdArc_nat,rdArc_nat];rfl
    rw[e]
    simp only[List.set_cons_succ,List.getD_cons_succ,bal_cons]
    rw[ih f i y (by simpa using h) (by simpa using hi)]
    omega
theorem bal_go {l:List S74} {f:List Int} (hl:f.length=l.length) {s:S38} (hs:StepOf l s) (k v:Int):
  bal l (goS f s k) v=bal l f v+(if stFrom l s=v then k else 0) - (if stTo l s=v then k else 0):=by
 obtain⟨i,h1,h2⟩:=hs
 unfold goS stFrom stTo eFrom eTo
 rw[h2,Int.toNat_natCast,bal_set l v f _ _ hl h1]
 cases s.f1
 ·simp only[Bool.false_eq_true,if_false]
  split<;>split<;>omega
 ·simp only[if_true]
  split<;>split<;>omega
def Trail (l:List S74):Int→List S38→Int→Prop
 |a,[],b=>a=b
 |a,s::L,b=>StepOf l s∧stFrom l s=a∧Trail l (stTo l s) L b
theorem Trail.of {l:List S74} : ∀ {L:List S38} {a b:Int},Trail l a L b→ ∀ s,s∈L→StepOf l s
 |[],_,_,_,s,hs=>by cases hs
 |x::L,_,_,h,s,hs=>(List.mem_cons.1 hs).elim (fun e=>e▸h.1) (h.2.2.of s)
theorem bal_pushW {l:List S74} (k v:Int): ∀ {L:List S38} {f:List Int} {a b:Int},f.length=l.length→Trail l a L b→
  bal l (pushW f k L) v=bal l f v+(if v=a then k else 0) - (if v=b then k else 0)
 |[],f,a,b,_,h=>by
  have h:a=b:=h
  subst h
  show bal l f v=_
  omega
 |s::L,f,a,b,hl,h=>by
  obtain⟨hs,rfl,ht⟩:=h
  show bal l (pushW (goS f s k) k L) v=_
  rw[bal_pushW k v (by rw[goS_len,hl]) ht,bal_go hl hs]
  have e1:(if v=stTo l s then k else 0)=(if stTo l s=v then k else 0):=by
   by_cases e:stTo l s=v
   ·rw[Yx e,Yx e.symm]
   ·rw[Yy e,Yy (Ne.symm e)]
  have e2:(if v=stFrom l s then k else 0)=(if stFrom l s=v then k else 0):=by
   by_cases e:stFrom l s=v
   ·rw[Yx e,Yx e.symm]
   ·rw[Yy e,Yy (Ne.symm e)]
  rw[e1,e2]
  omega
theorem rises_apart {l:List S74} (lv:Int→Int): ∀ {L:List S38} {a b:Int},Trail l a L b→(∀ s,s∈L→lv (stTo l s)=lv (stFrom l s)+1)→
  L.Pairwise (fun x y=>x.f0≠y.f0)∧ ∀ s,s∈L→lv a≤lv (stFrom l s)
 |[],_,_,_,_=>⟨List.Pairwise.nil,fun s hs=>by cases hs⟩
 |x::L,a,b,h,hv=>by
  obtain⟨hs,ha,ht⟩:=h
  have hx:=hv x List.mem_cons_self
  obtain⟨h1,h2⟩:=rises_apart lv ht (fun s hs=>hv s (List.mem_cons_of_mem _ hs))
  refine⟨List.pairwise_cons.2 ⟨fun y hy e=> ?_,h1⟩,fun s hs=> ?_⟩
  ·have h3:=h2 y hy
   have h4:=hv y (List.mem_cons_of_mem _ hy)
   have h5:(stFrom l y=stFrom l x∧stTo l y=stTo l x)∨(stFrom l y=stTo l x∧stTo l y=stFrom l x):=by
    unfold stFrom stTo
    rw[e]
    cases x.f1<;>cases y.f1<;>simp
   rcases h5 with ⟨e1,e2⟩|⟨e1,e2⟩
   ·rw[e1] at h3;omega
   ·rw[e1,e2] at h4;omega
  ·rcases List.mem_cons.1 hs with rfl|hs
   ·rw[ha];exact Int.le_refl _
   ·have:=h2 s hs
    rw[← ha]
    omega
def leastR (l:List S74) (F:List Int):List S38→Int
 |[]=>0
 |[s]=>stRoom l F s
 |s::t::L=>min (stRoom l F s) (leastR l F (t::L))
theorem leastR_le {l:List S74} {F:List Int} : ∀ {L:List S38} {s:S38},s∈L→leastR l F L≤stRoom l F s
 |[],s,h=>by cases h
 |[x],s,h=>by rw[List.mem_singleton.1 h];exact Int.le_refl _
 |x::y::L,s,h=>by
  unfold leastR
  rcases List.mem_cons.1 h with rfl|h
  ·omega
  ·have:=leastR_le (l:=l) (F:=F) h
   omega
theorem leastR_in {l:List S74} {F:List Int} : ∀ {L:List S38},L≠[]→ ∃ s,s∈L∧leastR l F L=stRoom l F s
 |[],h=>absurd rfl h
 |[x],_=>⟨x,List.mem_cons_self,rfl⟩
 |x::y::L,_=>by
  obtain⟨s,h1,h2⟩:=leastR_in (l:=l) (F:=F) (L:=y::L) (by simp)
  unfold leastR
  by_cases h:stRoom l F x≤leastR l F (y::L)
  ·exact⟨x,List.mem_cons_self,by omega⟩
  ·exact⟨s,List.mem_cons_of_mem _ h1,by omega⟩
end H
namespace H
open P Q
def outR (R:Int→Bool):List S74→List Int→Int
 |a::l,x::f=>(if R a.f0 then x else 0) - (if R a.f1 then x else 0)+outR R l f
 |_,_=>0
theorem outR_cons (R:Int→Bool) (a:S74) (l:List S74) (x:Int) (f:List Int):outR R (a::l) (x::f)=(if R a.f0 then x else 0) - (if R a.f1 then x else 0)+outR R l f:=rfl
def capR (R:Int→Bool):List S74→Int
 |[]=>0
 |a::l=>(if R a.f0 && !R a.f1 then a.f2 else 0)+capR R l
theorem capR_cons (R:Int→Bool) (a:S74) (l:List S74):capR R (a::l)=(if R a.f0 && !R a.f1 then a.f2 else 0)+capR R l:=rfl
def sumR (R:Int→Bool) (g:Int→Int):Nat→Int
 |0=>0
 |n+1=>sumR R g n+(if R n then g n else 0)
theorem sumR_add (R:Int→Bool) (g h:Int→Int) (n:Nat):sumR R (fun v=>g v+h v) n=sumR R g n+sumR R h n:=by
 induction n with
 |zero=>rfl
 |succ n ih=>unfold sumR;rw[ih];split<;>omega
theorem sumR_one (R:Int→Bool) (a x:Int) (n:Nat) (h0:0≤a) (h1:a<n):sumR R (fun v=>if a=v then x else 0) n=if R a then x else 0:=by
 have aux: ∀ m:Nat,sumR R (fun v=>if a=v then x else 0) m=if a<m then(if R a then x else 0) else 0:=by
  intro m
  induction m with
  |zero=>rw[Yy (by omega)];rfl
  |succ m ih=>
   unfold sumR
   rw[ih]
   show _+(if R m then(if a=(m:Int) then x else 0) else 0)=_
   by_cases e:a=(m:Int)
   ·subst e
    rw[Yy (Int.lt_irrefl _),Yx (show (m:Int)<((m+1:Nat):Int) by omega),Yx rfl]
    omega
   ·have e2:(if R m then(if a=(m:Int) then x else 0) else 0)=0:=by rw[Yy e];split<;>rfl
    rw[e2]
    by_cases hm:a<(m:Int)
    ·rw[Yx hm,Yx (show a<((m+1:Nat):Int) by omega)]
     omega
    ·rw[Yy hm,Yy (show ¬ a<((m+1:Nat):Int) by omega)]
     omega
 rw[aux,Yx h1]
theorem sumR_zero (R:Int→Bool) (n:Nat):sumR R (fun _=>0) n=0:=by
 induction n with
 |zero=>rfl
 |succ n ih=>unfold sumR;rw[ih];simp
theorem sumR_neg (R:Int→Bool) (g:Int→Int) (n:Nat):sumR R (fun v=> -g v) n= -sumR R g n:=by
 induction n with
 |zero=>rfl
 |succ n ih=>unfold sumR;rw[ih];split<;>omega
theorem sum_bal (R:Int→Bool) (n:Nat): ∀ (l:List S74) (f:List Int),(∀ a,a∈l→(0≤a.f0∧a.f0<n)∧0≤a.f1∧a.f1<n)→f.length=l.length→sumR R (bal l f) n=outR R l f
 |[],[],_,_=>by
  have e:bal ([]:List S74) []=fun _=>0:=rfl
  rw[e,sumR_zero]
  rfl
 |[],_::_,_,h=>by simp at h
 |_::_,[],_,h=>by simp at h
 |a::l,x::f,h,hl=>by
  obtain⟨⟨h1,h2⟩,h3,h4⟩:=h a List.mem_cons_self
  have e:bal (a::l) (x::f)=fun v=>((if a.f0=v then x else 0)+ -(if a.f1=v then x else 0))+bal l f v:=by
   funext v
   rw[bal_cons]
   omega
  rw[e,sumR_add,sumR_add,sumR_one R _ x n h1 h2,sumR_neg,sumR_one R _ x n h3 h4,sum_bal R n l f (fun b hb=>h b (List.mem_cons_of_mem _ hb)) (by simpa using hl),outR_cons]
  omega
theorem sumR_ends {R:Int→Bool} {g:Int→Int} {s t:Int} (n:Nat) (hs:R s=true) (ht:R t=false) (h0:0≤s) (h1:s<n) (hg: ∀ v:Int,0≤v→v<n→v≠s→v≠t→g v=0):sumR R g n=g s:=by
 have aux: ∀ m:Nat,m≤n→sumR R g m=if s<m then g s else 0:=by
  intro m
  induction m with
  |zero=>intro _;rw[Yy (by omega)];rfl
  |succ m ih=>
   intro hm
   unfold sumR
   rw[ih (by omega)]
   show _+(if R m then g m else 0)=_
   by_cases e:s=(m:Int)
   ·subst e
    rw[Yy (Int.lt_irrefl _),Yx hs,Yx (show (m:Int)<((m+1:Nat):Int) by omega)]
    omega
   ·have e2:(if R m then g m else 0)=0:=by
     by_cases e3:t=(m:Int)
     ·rw[← e3,ht];rfl
     ·rw[hg m (by omega) (by omega) (Ne.symm e) (Ne.symm e3)];split<;>rfl
    rw[e2]
    by_cases h:s<(m:Int)
    ·rw[Yx h,Yx (show s<((m+1:Nat):Int) by omega)];omega
    ·rw[Yy h,Yy (show ¬ s<((m+1:Nat):Int) by omega)];omega
 rw[aux n (Nat.le_refl _),Yx h1]
theorem outR_le (R:Int→Bool): ∀ (l:List S74) (f:List Int),flowB l f=true→outR R l f≤capR R l
 |[],[],_=>by simp[outR,capR]
 |[],_::_,h=>by simp[flowB] at h
 |_::_,[],h=>by simp[flowB] at h
 |a::l,x::f,h=>by
  unfold flowB at h
  split at h
  ·cases h
  ·split at h
   ·cases h
   ·have:=outR_le R l f h
    rw[outR_cons,capR_cons]
    cases R a.f0<;>cases R a.f1<;>simp<;>omega
def Tightly (R:Int→Bool) (l:List S74) (f:List Int):Prop:= ∀ i:Nat,i<l.length→(R (rd_T74 l i).f0=true→R (rd_T74 l i).f1=false→f.getD i 0=(rd_T74 l i).f2)∧(R (rd_T74 l i).f0=false→R (rd_T74 l i).f1=true→f.getD i 0=0)
theorem outR_eq (R:Int→Bool): ∀ (l:List S74) (f:List Int),f.length=l.length→Tightly R l f→outR R l f=capR R l
 |[],[],_,_=>by simp[outR,capR]
 |[],_::_,h,_=>by simp at h
 |_::_,[],h,_=>by simp at h
 |a::l,x::f,h,ht=>by
  have h0:=ht 0 (by simp)
  have e:rd_T74 (a::l) ((0:Nat):Int)=a:=rfl
  rw[e] at h0
  simp only[List.getD_cons_zero] at h0
  have ih:=outR_eq R l f (by simpa using h) (fun i hi=>by
   have h1:=ht (i+1) (by simp;omega)
   have e:rd_T74 (a::l) ((i+1:Nat):Int)=rd_T74 l (i:Int):=by rw[rdArc_nat,rdArc_nat];rfl
   rw[e] at h1
   simpa using h1)
  rw[outR_cons,ih,capR_cons]
  cases h1:R a.f0<;>cases h2:R a.f1
  ·simp
  ·have:=h0.2 h1 h2;simp[this]
  ·have:=h0.1 h1 h2;simp[this]
  ·simp
structure IsFlow (l:List S74) (F:List Int) (n:Nat) (s t:Int):Prop where
 right:Right l F n
 keeps: ∀ v:Int,0≤v→v<n→v≠s→v≠t→bal l F v=0
theorem ends_arcs {l:List S74} {n:Nat} (h:ends l n): ∀ a,a∈l→(0≤a.f0∧a.f0<n)∧0≤a.f1∧a.f1<n:=by
 intro a ha
 obtain⟨i,hi,e⟩:=List.getElem_of_mem ha
 have h1:=h i hi
 unfold eFrom eTo at h1
 rw[rdArc_nat,List.getD_eq_getElem?_getD,List.getElem?_eq_getElem hi] at h1
 have e2:(some l[i]).getD z74=a:=e
 rw[e2] at h1
 exact h1
theorem Right.flowB {l:List S74} {F:List Int} {n:Nat} (h:Right l F n):flowB l F=true:=by
 have hl:=h.len
 refine flow_mk hl fun i hi=> ?_
 have:=h.nums i (by omega)
 rw[rdArc_nat] at this
 exact⟨this.2.2.1,this.2.2.2.1⟩
theorem value_le {l:List S74} {F:List Int} {n:Nat} {s t:Int} (h:IsFlow l F n s t) (R:Int→Bool) (hs:R s=true) (ht:R t=false) (h0:0≤s) (h1:s<n):bal l F s≤capR R l:=by
 rw[← sumR_ends n hs ht h0 h1 h.keeps,sum_bal R n l F (ends_arcs h.right.ends) h.right.len]
 exact outR_le R l F h.right.flowB
theorem value_eq {l:List S74} {F:List Int} {n:Nat} {s t:Int} (h:IsFlow l F n s t) (R:Int→Bool) (hs:R s=true) (ht:R t=false) (h0:0≤s) (h1:s<n)
  (hR: ∀ e:S38,StepOf l e→0<stRoom l F e→R (stFrom l e)=true→R (stTo l e)=true):bal l F s=capR R l:=by
 rw[← sumR_ends n hs ht h0 h1 h.keeps,sum_bal R n l F (ends_arcs h.right.ends) h.right.len]
 refine outR_eq R l F h.right.len fun i hi=> ?_
 have hn:=h.right.nums i hi
 have hf:=hR ⟨i,false⟩ ⟨i,hi,rfl⟩
 have hb:=hR ⟨i,true⟩ ⟨i,hi,rfl⟩
 unfold stRoom stFrom stTo eFrom eTo at hf hb
 simp only[Bool.false_eq_true,if_false,if_true,Int.toNat_natCast] at hf hb
 refine⟨fun a b=> ?_,fun a b=> ?_⟩
 ·have: ¬ 0<(rd_T74 l i).f2 - F.getD i 0:=fun g=>by have:=hf g a;rw[b] at this;cases this
  omega
 ·have: ¬ 0<F.getD i 0:=fun g=>by have:=hb g b;rw[a] at this;cases this
  omega
theorem capR_top (R:Int→Bool): ∀ (l:List S74),(∀ a,a∈l→0≤a.f2∧a.f2≤1048576)→0≤capR R l∧capR R l≤1048576 * l.length
 |[],_=>by simp[capR]
 |a::l,h=>by
  have h1:=h a List.mem_cons_self
  have h2:=capR_top R l fun b hb=>h b (List.mem_cons_of_mem _ hb)
  rw[List.length_cons,capR_cons]
  split<;>omega
theorem Right.caps {l:List S74} {F:List Int} {n:Nat} (h:Right l F n): ∀ a,a∈l→0≤a.f2∧a.f2≤1048576:=by
 intro a ha
 obtain⟨i,hi,e⟩:=List.getElem_of_mem ha
 have h1:=h.nums i hi
 rw[rdArc_nat,List.getD_eq_getElem?_getD,List.getElem?_eq_getElem hi] at h1
 have e2:(some l[i]).getD z74=a:=e
 rw[e2] at h1
 omega
end H
namespace H
open P Q
def esP (l:List S74) (F:List Int) (u:Nat):List S38:=(stL l u l.length).filter fun e=>decide (0<stRoom l F e)
def toP (l:List S74) (e:S38):Nat:=(stTo l e).toNat
def frP (l:List S74) (e:S38):Nat:=(stFrom l e).toNat
def bfP (l:List S74) (F:List Int) (n s:Nat):List (Fd S38):=bfsN (toP l) (esP l F) z38 n s
theorem mem_esP {l:List S74} {F:List Int} {u:Nat} {e:S38} :e∈esP l F u↔e∈stL l u l.length∧0<stRoom l F e:=by
 unfold esP;rw[List.mem_filter,decide_eq_true_eq]
theorem frP_of {l:List S74} {u:Nat} {e:S38} (h:e∈stL l u l.length):frP l e=u:=by
 unfold frP;rw[stL_from h,Int.toNat_natCast]
theorem toP_lt {l:List S74} {F:List Int} {n:Nat} (hr:Right l F n) {s:S38} (hs:StepOf l s):toP l s<n:=by
 have:=stTo_in hr hs;unfold toP;omega
theorem frP_lt {l:List S74} {F:List Int} {n:Nat} (hr:Right l F n) {s:S38} (hs:StepOf l s):frP l s<n:=by
 have:=stFrom_in hr hs;unfold frP;omega
theorem esP_to {l:List S74} {F:List Int} {n:Nat} (hr:Right l F n): ∀ (u:Nat) (e:S38),e∈esP l F u→toP l e<n:=fun u e he=>toP_lt hr (stL_of (mem_esP.1 he).1)
theorem esP_fr {l:List S74} {F:List Int} : ∀ (u:Nat) (e:S38),e∈esP l F u→frP l e=u:=fun u e he=>frP_of (mem_esP.1 he).1
theorem esP_of {l:List S74} {F:List Int} {n:Nat} (hr:Right l F n) {e:S38} (hs:StepOf l e) (h:0<stRoom l F e):e∈esP l F (frP l e):=by
 refine mem_esP.2 ⟨?_,h⟩
 have hf:=stFrom_in hr hs
 rw[mem_stL]
 unfold frP
 rw[Int.toNat_of_nonneg hf.1]
 obtain⟨i,h1,h2⟩:=hs
 refine⟨i,h1,h2,?_⟩
 unfold stFrom
 rw[h2]
 cases e.f1
 ·exact .inl ⟨rfl,rfl⟩
 ·exact .inr ⟨rfl,rfl⟩
theorem bfP_upto {l:List S74} {F:List Int} {n s:Nat} (hr:Right l F n) (hs:s<n):Upto (frP l) (toP l) (esP l F) s (bfP l F n s).length (bfP l F n s):=bfsN_upto (esP_to hr) hs
theorem bfP_head {l:List S74} {F:List Int} {n s:Nat} (hr:Right l F n) (hs:s<n): ∃ x,x∈bfP l F n s∧x.v=s∧x.lv=0:=by
 obtain⟨x,r,h1,h2,h3⟩:=(bfP_upto hr hs).fds.head
 exact⟨x,by rw[h1];exact List.mem_cons_self,h2,h3⟩
def netG (l:List S74) (F D:List Int):Net_ S38:=⟨fun v=>stL l v l.length,toP l,frP l,fun v=>D.getD v 0,fun e=>decide (0<stRoom l F e)⟩
theorem netG_fine {l:List S74} {F F0:List Int} {n s:Nat} (hr:Right l F0 n) (hs:s<n):(netG l F (dOf n (bfP l F0 n s))).Fine s n:=by
 have hu:=bfP_upto hr hs
 refine⟨fun u e he=>frP_of he,fun u e he=>toP_lt hr (stL_of he),hs,?_,fun v hv=> ?_⟩
 ·obtain⟨x,h1,h2,h3⟩:=bfP_head hr hs
  show (dOf n _).getD s 0=0
  have h4:=dOf_mem hu.fds.nodup h1 0 (by rw[h2];exact hs)
  rw[h2,h3] at h4
  exact h4
 ·show (dOf n _).getD v 0<n
  rw[dOf_get _ _ hv]
  cases hf:fnd (bfP l F0 n s) v with
  |none=>simp only;omega
  |some x=>
   have h1:=lv_lt hu.fds (fnd_some hf).1
   have h2:=fds_len hu.fds (esP_to hr) hs
   simp only
   omega
def phaseF (l:List S74) (D:List Int) (s t:Nat):Nat→List Int→List Nat→List Int
 |0,F,_=>F
 |k+1,F,nx=>match downG (netG l F D) s t 2000000 s [] nx with
  |(none,_)=>F
  |(some L,nx')=>phaseF l D s t k (pushW F (leastR l F L) L) nx'
def refillF (l:List S74) (n s t:Nat):Nat→List Int→List Int
 |0,F=>F
 |k+1,F=>if (dOf n (bfP l F n s)).getD t 0<0 then F else refillF l n s t k (phaseF l (dOf n (bfP l F n s)) s t 300000000 F (List.replicate n 0))
def fillF (l:List S74) (n s t:Nat):List Int:=refillF l n s t 300000000 (List.replicate l.length 0)
theorem remG_le (g:Net_ S38) (nx:List Nat) (h: ∀ v,(g.rows v).length≤400) (n:Nat):remG g nx n≤400 * n:=by
 induction n with
 |zero=>exact Nat.le_refl _
 |succ n ih=>unfold remG;have:=h n;omega
theorem downM_lt {l:List S74} {F D:List Int} {n v:Nat} (h:l.length≤200) (hn:n≤50) (nx:List Nat):downM (netG l F D) n v nx<2000000:=by
 have h1:=remG_le (netG l F D) nx (fun v=>by have:=stL_len l v l.length;show (stL l v l.length).length≤400;omega) n
 have h2:remG (netG l F D) nx n * (n+1)≤20000 * 51:=Nat.mul_le_mul (by omega) (by omega)
 unfold downM
 omega
theorem leads_trail {l:List S74} {F:List Int} {n:Nat} (hr:Right l F n) {rows:Nat→List S38} (hrows: ∀ u e,e∈rows u→e∈stL l u l.length): ∀ {L:List S38} {s t:Nat},Leads (toP l) rows s L t→Trail l s L t
 |[],s,t,h=>by cases h;rfl
 |x::L,s,t,h=>by
  have hx:=hrows _ _ h.1
  refine⟨stL_of hx,stL_from hx,?_⟩
  have h1:=stTo_in hr (stL_of hx)
  have h2:=leads_trail hr hrows h.2
  unfold toP at h2
  rw[Int.toNat_of_nonneg h1.1] at h2
  exact h2
structure NxOk (l:List S74) (n:Nat) (nx:List Nat):Prop where
 len:nx.length=n
 le: ∀ u,u<n→nx.getD u 0≤(stL l u l.length).length
theorem nx_zero (l:List S74) (n:Nat):NxOk l n (List.replicate n 0):=
 ⟨by simp,fun u hu=>by rw[List.getD_eq_getElem?_getD,List.getElem?_replicate,Yx hu];exact Nat.zero_le _⟩
theorem dinv_start {l:List S74} {F D:List Int} {n s:Nat} {nx:List Nat} (hs:s<n) (h:NxOk l n nx):DInv (netG l F D) s n s [] nx:=
 ⟨hs,h.len,h.le,rfl,fun e he=>(by cases he),fun e he=>(by cases he)⟩
theorem push_found {l:List S74} {F F0:List Int} {n s t:Nat} (hf:IsFlow l F n s t) (hr0:Right l F0 n) (hs:s<n) (hst:s≠t) {L:List S38}
  (hL:Leads (toP l) (fun v=>stL l v l.length) s L t) (ha: ∀ e,e∈L→(netG l F (dOf n (bfP l F0 n s))).adm (frP l e) e=true):
  IsFlow l (pushW F (leastR l F L) L) n s t∧1≤leastR l F L∧L≠[]∧bal l (pushW F (leastR l F L) L) s=bal l F s+leastR l F L∧L.Pairwise (fun a b=>a.f0≠b.f0)∧(∀ s,s∈L→StepOf l s)∧leastR l F L≤1048576:=by
 have hne:L≠[]:=by rintro rfl;exact hst hL
 have htr:=leads_trail hf.right (rows:=fun v=>stL l v l.length) (fun _ _ h=>h) hL
 have hroom: ∀ e,e∈L→0<stRoom l F e:=fun e he=>Yu (adm_lv (ha e he)).2
 obtain⟨m,hm,hle⟩:=leastR_in (l:=l) (F:=F) hne
 have h1:1≤leastR l F L:=by rw[hle];exact hroom m hm
 have hap:=(rises_apart (l:=l) (fun v=>(dOf n (bfP l F0 n s)).getD v.toNat 0) htr (fun e he=>(adm_lv (ha e he)).1)).1
 have hr:=Right.pushW (k:=leastR l F L) (by omega) L hf.right (fun e he=>⟨htr.of e he,leastR_le he⟩) hap
 have hb:=fun v=>bal_pushW (leastR l F L) v hf.right.len htr
 have hmx:=(stRoom_in hf.right (htr.of m hm)).2
 refine⟨⟨hr,fun v h0 h1 h2 h3=> ?_⟩,h1,hne,?_,hap,htr.of,by omega⟩
 ·rw[hb,Yy h2,Yy h3,hf.keeps v h0 h1 h2 h3];rfl
 ·rw[hb,Yx rfl,Yy (by omega)];omega
theorem flow_top {l:List S74} {F:List Int} {n s t:Nat} (hf:IsFlow l F n s t) (hs:s<n) (hst:s≠t):bal l F s≤209715200:=by
 have h1:=value_le hf (fun v=>decide (v=(s:Int))) (by simp) (by simp;omega) (by omega) (by omega)
 have h2:=capR_top (fun v=>decide (v=(s:Int))) l hf.right.caps
 have h3:=hf.right.arcs
 have h4:1048576 * (l.length:Int)≤1048576 * 200:=by omega
 omega
structure PhaseOk (l:List S74) (F0:List Int) (n s t:Nat) (F:List Int):Prop where
 flow:IsFlow l F n s t
 more:bal l F0 s≤bal l F s
theorem phase_step {l:List S74} {F D:List Int} {s t k:Nat} {nx nx':List Nat} {L:List S38} (h:downG (netG l F D) s t 2000000 s [] nx=(some L,nx')):phaseF l D s t (k+1) F nx=phaseF l D s t k (pushW F (leastR l F L) L) nx':=by
 show (match downG (netG l F D) s t 2000000 s [] nx with|(none,_)=>F|(some L,nx')=>phaseF l D s t k (pushW F (leastR l F L) L) nx')=_
 rw[h]
theorem phase_end {l:List S74} {F D:List Int} {s t k:Nat} {nx nx':List Nat} (h:downG (netG l F D) s t 2000000 s [] nx=(none,nx')):phaseF l D s t (k+1) F nx=F:=by
 show (match downG (netG l F D) s t 2000000 s [] nx with|(none,_)=>F|(some L,nx')=>phaseF l D s t k (pushW F (leastR l F L) L) nx')=_
 rw[h]
theorem phase_flow {l:List S74} {F0:List Int} {n s t:Nat} (hr0:Right l F0 n) (hs:s<n) (hst:s≠t) (k:Nat): ∀ {F:List Int} {nx:List Nat},IsFlow l F n s t→NxOk l n nx→PhaseOk l F n s t (phaseF l (dOf n (bfP l F0 n s)) s t k F nx):=by
 induction k with
 |zero=>intro F nx hf _;exact⟨hf,Int.le_refl _⟩
 |succ k ih=>
  intro F nx hf hnx
  have hfd:=downG_found (t:=t) (netG_fine (F:=F) hr0 hs) 2000000 (dinv_start (F:=F) (D:=dOf n (bfP l F0 n s)) hs hnx) (downM_lt hf.right.arcs hf.right.fifty nx)
  cases hd:downG (netG l F (dOf n (bfP l F0 n s))) s t 2000000 s [] nx with
  |mk r nx'=>
   rw[hd] at hfd
   cases r with
   |none=>rw[phase_end hd];exact⟨hf,Int.le_refl _⟩
   |some L=>
    rw[phase_step hd]
    obtain⟨h1,h2⟩:=hfd.way L rfl
    obtain⟨p1,p2,p3,p4,_⟩:=push_found hf hr0 hs hst h1 h2
    obtain⟨q1,q2⟩:=ih (nx:=nx') p1 ⟨hfd.len,hfd.le⟩
    exact⟨q1,by omega⟩
theorem phase_first {l:List S74} {F:List Int} {n s t:Nat} (hr:Right l F n) (hs:s<n) (ht:t<n) (hst:s≠t) (hd:0≤(dOf n (bfP l F n s)).getD t 0): ∃ L nx',downG (netG l F (dOf n (bfP l F n s))) s t 2000000 s [] (List.replicate n 0)=(some L,nx'):=by
 have hu:=bfP_upto hr hs
 have hfine:=netG_fine (F:=F) hr hs
 have hi:=dinv_start (F:=F) (D:=dOf n (bfP l F n s)) hs (nx_zero l n)
 have hfd:=downG_found (t:=t) hfine 2000000 hi (downM_lt hr.arcs hr.fifty _)
 have hdd:=downG_dead (t:=t) hfine 2000000 hi (downM_lt hr.arcs hr.fifty _) (fun u hu j hj=>by
  rw[List.getD_eq_getElem?_getD,List.getElem?_replicate,Yx hu] at hj
  exact absurd hj (Nat.not_lt_zero _))
 cases he:downG (netG l F (dOf n (bfP l F n s))) s t 2000000 s [] (List.replicate n 0) with
 |mk r nx'=>
  cases r with
  |some L=>exact⟨L,nx',rfl⟩
  |none=>
   exfalso
   rw[he] at hfd hdd
   have hmem:t∈nodes (bfP l F n s):=Classical.byContradiction fun h=>by have:=(dOf_neg (bfP l F n s) 0 ht).2 h;omega
   obtain⟨x,hx,hxv⟩:=List.mem_map.1 hmem
   have hle:=Nat.le_of_lt (lv_lt hu.fds hx)
   obtain⟨_,hle2⟩:=backL_spec hu.fds esP_fr (bfP l F n s).length hx hle
   have hlv:=backL_lv hu.fds esP_fr (bfP l F n s).length hx
   rw[hxv] at hle2 hlv
   have hmono: ∀ {L:List S38} {a b:Nat},Leads (toP l) (esP l F) a L b→Leads (toP l) (fun v=>stL l v l.length) a L b:=by
    intro L
    induction L with
    |nil=>intro a b h;exact h
    |cons y L ih=>intro a b h;exact⟨(mem_esP.1 h.1).1,ih h.2⟩
   refine dead_way (g:=netG l F (dOf n (bfP l F n s))) hfine.hfr hdd (hmono hle2) (fun e hein=> ?_) ⟨hst,hs,hfd.none_ rfl⟩
   obtain⟨y,z,hy,hz,h1,h2,h3,h4⟩:=hlv e (List.mem_reverse.1 hein)
   have hln:=fds_lt hu.fds (esP_to hr) hs
   have g1:(dOf n (bfP l F n s)).getD (toP l e) 0=y.lv:=by rw[← h1];exact dOf_mem hu.fds.nodup hy 0 (hln _ (List.mem_map_of_mem hy))
   have g2:(dOf n (bfP l F n s)).getD (frP l e) 0=z.lv:=by rw[← h2];exact dOf_mem hu.fds.nodup hz 0 (hln _ (List.mem_map_of_mem hz))
   show (decide ((dOf n (bfP l F n s)).getD (toP l e) 0=(dOf n (bfP l F n s)).getD (frP l e) 0+1) && decide (0<stRoom l F e))=true
   rw[g1,g2,Bool.and_eq_true,decide_eq_true_eq,decide_eq_true_eq]
   exact⟨by omega,(mem_esP.1 h4).2⟩
theorem phase_grows {l:List S74} {F:List Int} {n s t:Nat} (hf:IsFlow l F n s t) (hs:s<n) (ht:t<n) (hst:s≠t) (hd:0≤(dOf n (bfP l F n s)).getD t 0) (k:Nat):
  IsFlow l (phaseF l (dOf n (bfP l F n s)) s t (k+1) F (List.replicate n 0)) n s t∧bal l F s+1≤bal l (phaseF l (dOf n (bfP l F n s)) s t (k+1) F (List.replicate n 0)) s:=by
 obtain⟨L,nx',he⟩:=phase_first hf.right hs ht hst hd
 have hfd:=downG_found (t:=t) (netG_fine (F:=F) hf.right hs) 2000000 (dinv_start (F:=F) (D:=dOf n (bfP l F n s)) hs (nx_zero l n)) (downM_lt hf.right.arcs hf.right.fifty _)
 rw[he] at hfd
 rw[phase_step he]
 obtain⟨h1,h2⟩:=hfd.way L rfl
 obtain⟨p1,p2,p3,p4,_⟩:=push_found hf hf.right hs hst h1 h2
 obtain⟨q1,q2⟩:=phase_flow hf.right hs hst k (nx:=nx') p1 ⟨hfd.len,hfd.le⟩
 exact⟨q1,by omega⟩
structure MaxF (l:List S74) (F:List Int) (n s t:Nat):Prop where
 flow:IsFlow l F n s t
 cut:t ∉ nodes (bfP l F n s)
theorem refill_max {l:List S74} {n s t:Nat} (hs:s<n) (ht:t<n) (hst:s≠t) (k:Nat): ∀ {F:List Int},IsFlow l F n s t→209715200 - bal l F s<k→MaxF l (refillF l n s t k F) n s t:=by
 induction k with
 |zero=>intro F hf hk;have:=flow_top hf hs hst;omega
 |succ k ih=>
  intro F hf hk
  unfold refillF
  by_cases h:(dOf n (bfP l F n s)).getD t 0<0
  ·rw[Yx h]
   exact⟨hf,(dOf_neg _ _ ht).1 h⟩
  ·rw[Yy h]
   obtain⟨h1,h2⟩:=phase_grows hf hs ht hst (by omega) 299999999
   rw[show 299999999+1=300000000 from rfl] at h1 h2
   exact ih h1 (by omega)
theorem zeros_flow {l:List S74} {n s t:Nat} (h0:0<n) (h50:n≤50) (hl:l.length≤200) (he:ends l n) (hn: ∀ i:Nat,i<l.length→0≤(rd_T74 l i).f3∧(rd_T74 l i).f3≤1048576∧0≤(rd_T74 l i).f2∧(rd_T74 l i).f2≤1048576):
  IsFlow l (List.replicate l.length 0) n s t∧bal l (List.replicate l.length 0) s=0:=by
 have hz: ∀ (l:List S74) (v:Int),bal l (List.replicate l.length 0) v=0:=by
  intro l v
  induction l with
  |nil=>rfl
  |cons a l ih=>rw[List.length_cons,List.replicate_succ,bal_cons,ih];split<;>split<;>rfl
 refine⟨⟨⟨h0,h50,hl,by simp,he,fun i hi=> ?_⟩,fun v _ _ _ _=>hz l v⟩,hz l _⟩
 have:=hn i hi
 have e:(List.replicate l.length (0:Int)).getD i 0=0:=by rw[List.getD_eq_getElem?_getD,List.getElem?_replicate,Yx hi];rfl
 rw[e]
 omega
def sideP (l:List S74) (F:List Int) (n s:Nat) (v:Int):Bool:=decide (0≤v∧v.toNat∈nodes (bfP l F n s))
theorem side_closed {l:List S74} {F:List Int} {n s:Nat} (hr:Right l F n) (hs:s<n): ∀ e:S38,StepOf l e→0<stRoom l F e→sideP l F n s (stFrom l e)=true→sideP l F n s (stTo l e)=true:=by
 intro e he hroom h
 unfold sideP at h ⊢
 rw[decide_eq_true_eq] at h ⊢
 obtain⟨x,hx,hxv⟩:=List.mem_map.1 h.2
 have h1:=esP_of hr he hroom
 have h2:frP l e=x.v:=hxv.symm
 rw[h2] at h1
 obtain⟨y,hy,h3,_⟩:=bfsN_closed (z:=z38) (esP_to hr) hs hx h1
 have h4:=stTo_in hr he
 exact⟨h4.1,List.mem_map.2 ⟨y,hy,h3⟩⟩
theorem max_value {l:List S74} {F:List Int} {n s t:Nat} (h:MaxF l F n s t) (hs:s<n) (hst:s≠t):bal l F s=capR (sideP l F n s) l∧sideP l F n s s=true∧sideP l F n s t=false:=by
 have h1:sideP l F n s s=true:=by
  obtain⟨x,hx,hxv,_⟩:=bfP_head h.flow.right hs
  unfold sideP
  rw[decide_eq_true_eq]
  exact⟨by omega,by rw[Int.toNat_natCast];exact List.mem_map.2 ⟨x,hx,hxv⟩⟩
 have h2:sideP l F n s t=false:=by
  unfold sideP
  rw[decide_eq_false_iff_not,Int.toNat_natCast]
  exact fun g=>h.cut g.2
 exact⟨value_eq h.flow _ h1 h2 (by omega) (by omega) (side_closed h.flow.right hs),h1,h2⟩
theorem max_top {l:List S74} {F G:List Int} {n s t:Nat} (h:MaxF l F n s t) (hs:s<n) (hst:s≠t) (hg:IsFlow l G n s t):bal l G s≤bal l F s:=by
 obtain⟨h1,h2,h3⟩:=max_value h hs hst
 rw[h1]
 exact value_le hg _ h2 h3 (by omega) (by omega)
end H
namespace H
open P Q
theorem zeros_of {l:List S74} {F:List Int} {n s t:Nat} (h:Right l F n):IsFlow l (List.replicate l.length 0) n s t∧bal l (List.replicate l.length 0) s=0:=
 zeros_flow h.pos h.fifty h.arcs h.ends (fun i hi=>by have:=h.nums i hi;exact⟨this.1,this.2.1,by omega,by omega⟩)
theorem fill_max {l:List S74} {F:List Int} {n s t:Nat} (hr:Right l F n) (hs:s<n) (ht:t<n) (hst:s≠t):MaxF l (fillF l n s t) n s t:=by
 obtain⟨h1,h2⟩:=zeros_of (s:=s) (t:=t) hr
 exact refill_max hs ht hst 300000000 h1 (by omega)
end H
namespace H
def sumN (f:Nat→Int):Nat→Int
 |0=>0
 |n+1=>sumN f n+f n
theorem sumN_add (f g:Nat→Int) (n:Nat):sumN (fun v=>f v+g v) n=sumN f n+sumN g n:=by
 induction n with
 |zero=>rfl
 |succ n ih=>simp only[sumN,ih];omega
theorem sumN_congr {f g:Nat→Int} {n:Nat} (h: ∀ v,v<n→f v=g v):sumN f n=sumN g n:=by
 induction n with
 |zero=>rfl
 |succ n ih=>simp only[sumN];rw[ih (fun v hv=>h v (by omega)),h n (by omega)]
theorem sumN_zero (n:Nat):sumN (fun _=>0) n=0:=by
 induction n with
 |zero=>rfl
 |succ n ih=>simp only[sumN,ih];rfl
theorem sumN_single (p:Nat→Int) (x:Int) (u n:Nat) (hu:u<n):sumN (fun v=>p v * (if u=v then x else 0)) n=p u * x:=by
 induction n with
 |zero=>omega
 |succ n ih=>
  simp only[sumN]
  by_cases h:u=n
  ·subst h
   rw[Yx rfl,sumN_congr (g:=fun _=>0) (fun v hv=>by rw[Yy (by omega)];exact Int.mul_zero _),sumN_zero]
   omega
  ·rw[ih (by omega),Yy h,Int.mul_zero,Int.add_zero]
structure Two where
 a:Nat
 b:Nat
 t:Int
 f:Int
 g:Int
def balT (L:List Two) (x:Two→Int) (v:Nat):Int:=
 match L with
 |[]=>0
 |e::L=>((if e.a=v then x e else 0) - (if e.b=v then x e else 0))+balT L x v
def costT (L:List Two) (x:Two→Int):Int:=
 match L with
 |[]=>0
 |e::L=>x e * e.t+costT L x
def potT (L:List Two) (x:Two→Int) (p:Nat→Int):Int:=
 match L with
 |[]=>0
 |e::L=>(p e.a * x e - p e.b * x e)+potT L x p
theorem potT_bal (L:List Two) (x:Two→Int) (p:Nat→Int) (n:Nat) (h: ∀ e,e∈L→e.a<n∧e.b<n):potT L x p=sumN (fun v=>p v * balT L x v) n:=by
 induction L with
 |nil=>
  simp only[potT,balT]
  rw[sumN_congr (g:=fun _=>0) (fun v _=>Int.mul_zero _),sumN_zero]
 |cons e L ih=>
  have h1:=h e List.mem_cons_self
  simp only[potT,balT]
  rw[ih (fun e he=>h e (List.mem_cons_of_mem _ he))]
  rw[sumN_congr (f:=fun v=>p v * (((if e.a=v then x e else 0) - (if e.b=v then x e else 0))+balT L x v)) (g:=fun v=>(p v * (if e.a=v then x e else 0)+p v * -(if e.b=v then x e else 0))+p v * balT L x v) (fun v _=>by rw[Int.mul_add,Int.mul_sub,Int.mul_neg];omega)]
  rw[sumN_add (fun v=>p v * (if e.a=v then x e else 0)+p v * -(if e.b=v then x e else 0)),sumN_add,sumN_single p (x e) e.a n h1.1]
  rw[sumN_congr (f:=fun v=>p v * -(if e.b=v then x e else 0)) (g:=fun v=>p v * (if e.b=v then -(x e) else 0)) (fun v _=>by split<;>simp),sumN_single p (-(x e)) e.b n h1.2,Int.mul_neg]
  omega
theorem term_nonneg {t pa pb f g:Int} (h1:f<g→pb≤pa+t) (h2:g<f→pa≤pb - t):f * t+(pa * f - pb * f)≤g * t+(pa * g - pb * g):=by
 have key:0≤(g - f) * (t+pa - pb):=by
  rcases Int.lt_trichotomy f g with h|h|h
  ·exact Int.mul_nonneg (by omega) (by have:=h1 h;omega)
  ·rw[h,Int.sub_self,Int.zero_mul];exact Int.le_refl _
  ·have:=h2 h
   have h3:0≤(f - g) * (pb - pa - t):=Int.mul_nonneg (by omega) (by omega)
   have h4:(f - g) * (pb - pa - t)=(g - f) * (t+pa - pb):=by
    rw[show f - g= -(g - f) by omega,show pb - pa - t= -(t+pa - pb) by omega,Int.neg_mul_neg]
   rw[h4] at h3
   exact h3
 have h5:(g - f) * (t+pa - pb)=(g * t+g * pa - g * pb) - (f * t+f * pa - f * pb):=by
  rw[Int.sub_mul,Int.mul_sub,Int.mul_add,Int.mul_sub,Int.mul_add]
 rw[h5] at key
 rw[Int.mul_comm pa f,Int.mul_comm pb f,Int.mul_comm pa g,Int.mul_comm pb g]
 omega
theorem cheapest (L:List Two) (n:Nat) (p:Nat→Int) (h: ∀ e,e∈L→e.a<n∧e.b<n) (hp: ∀ e,e∈L→(e.f<e.g→p e.b≤p e.a+e.t)∧(e.g<e.f→p e.a≤p e.b - e.t))
  (hb: ∀ v,v<n→balT L Two.f v=balT L Two.g v):costT L Two.f≤costT L Two.g:=by
 have h1: ∀ L:List Two,(∀ e,e∈L→(e.f<e.g→p e.b≤p e.a+e.t)∧(e.g<e.f→p e.a≤p e.b - e.t))→costT L Two.f+potT L Two.f p≤costT L Two.g+potT L Two.g p:=by
  intro L
  induction L with
  |nil=>intro _;exact Int.le_refl _
  |cons e L ih=>
   intro hp
   have h2:=ih (fun e he=>hp e (List.mem_cons_of_mem _ he))
   have h3:=hp e List.mem_cons_self
   have h4:=term_nonneg h3.1 h3.2
   simp only[costT,potT]
   omega
 have h2:=h1 L hp
 rw[potT_bal L Two.f p n h,potT_bal L Two.g p n h,sumN_congr (g:=fun v=>p v * balT L Two.g v) (fun v hv=>by rw[hb v hv])] at h2
 omega
end H
namespace H
open P Q
def payS:List S74→List Int→Int
 |a::l,x::f=>x * a.f3+payS l f
 |_,_=>0
theorem payS_cons (a:S74) (l:List S74) (x:Int) (f:List Int):payS (a::l) (x::f)=x * a.f3+payS l f:=rfl
def TightP (l:List S74) (F:List Int) (p:Nat→Int):Prop:= ∀ e:S38,StepOf l e→0<stRoom l F e→p (toP l e)≤p (frP l e)+stTime l e
def TightO (l:List S74) (F:List Int) (d:Nat→Option Int):Prop:= ∀ e:S38,StepOf l e→0<stRoom l F e→ ∀ x,d (frP l e)=some x→ ∃ y,d (toP l e)=some y∧y≤x+stTime l e
def minO (d:Nat→Option Int) (q:Nat→Int) (v:Nat):Int:=match d v with|some x=>min x (q v)|none=>q v
theorem minO_some {d:Nat→Option Int} {q:Nat→Int} {v:Nat} {x:Int} (h:d v=some x):minO d q v=min x (q v):=by unfold minO;rw[h]
theorem minO_le (d:Nat→Option Int) (q:Nat→Int) (v:Nat):minO d q v≤q v:=by
 unfold minO
 split
 ·omega
 ·exact Int.le_refl _
theorem TightP.min_ {l:List S74} {F:List Int} {d:Nat→Option Int} {q:Nat→Int} (hd:TightO l F d) (hq:TightP l F q):TightP l F (minO d q):=by
 intro e he hr
 have h2:=hq e he hr
 have h3:=minO_le d q (toP l e)
 cases hx:d (frP l e) with
 |none=>
  have:minO d q (frP l e)=q (frP l e):=by unfold minO;rw[hx]
  omega
 |some x=>
  obtain⟨y,hy,hle⟩:=hd e he hr x hx
  rw[minO_some hx]
  rw[minO_some hy] at h3 ⊢
  omega
theorem TightP.plus {l:List S74} {F:List Int} {q:Nat→Int} (hq:TightP l F q) (c:Int):TightP l F (fun v=>q v+c):=by
 intro e he hr
 have:=hq e he hr
 show q _+c≤q _+c+_
 omega
theorem tight_zero {l:List S74} {n:Nat} (hr:Right l (List.replicate l.length 0) n):TightP l (List.replicate l.length 0) (fun _=>0):=by
 intro e he hrm
 obtain⟨i,h1,h2⟩:=he
 have hn:=hr.nums i h1
 have e0:(List.replicate l.length (0:Int)).getD i 0=0:=by rw[List.getD_eq_getElem?_getD,List.getElem?_replicate,Yx h1];rfl
 unfold stRoom at hrm
 rw[h2,Int.toNat_natCast] at hrm
 unfold stTime
 rw[h2]
 cases hb:e.f1<;>rw[hb] at hrm<;>simp only[Bool.false_eq_true,if_false,if_true] at hrm ⊢
 ·omega
 ·omega
theorem outR_compl (R:Int→Bool): ∀ (l:List S74) (f:List Int),outR R l f+outR (fun v=> !R v) l f=0
 |[],_=>by simp[outR]
 |_::_,[]=>by simp[outR]
 |a::l,x::f=>by
  have:=outR_compl R l f
  rw[outR_cons,outR_cons]
  cases R a.f0<;>cases R a.f1<;>simp<;>omega
theorem flow_ends {l:List S74} {F:List Int} {n s t:Nat} (h:IsFlow l F n s t) (hs:s<n) (ht:t<n) (hst:s≠t):bal l F t= - bal l F s:=by
 have h1:=sumR_ends (R:=fun v=> !decide (v=(t:Int))) (g:=bal l F) (s:=s) (t:=t) n (by simp;omega) (by simp) (by omega) (by omega) h.keeps
 have h2:=sumR_ends (R:=fun v=> !!decide (v=(t:Int))) (g:=bal l F) (s:=t) (t:=s) n (by simp) (by simp;omega) (by omega) (by omega) (fun v a b c d=>h.keeps v a b d c)
 rw[sum_bal _ n l F (ends_arcs h.right.ends) h.right.len] at h1 h2
 have h3:=outR_compl (fun v=> !decide (v=(t:Int))) l F
 omega
def twoL:List S74→List Int→List Int→List Two
 |a::l,x::f,y::g=>⟨a.f0.toNat,a.f1.toNat,a.f3,x,y⟩::twoL l f g
 |_,_,_=>[]
theorem twoL_mem: ∀ (l:List S74) (f g:List Int) (e:Two),e∈twoL l f g→ ∃ i:Nat,i<l.length∧i<f.length∧i<g.length∧e=⟨(rd_T74 l i).f0.toNat,(rd_T74 l i).f1.toNat,(rd_T74 l i).f3,f.getD i 0,g.getD i 0⟩
 |[],_,_,e,h=>by simp[twoL] at h
 |_::_,[],_,e,h=>by simp[twoL] at h
 |_::_,_::_,[],e,h=>by simp[twoL] at h
 |a::l,x::f,y::g,e,h=>by
  unfold twoL at h
  rcases List.mem_cons.1 h with rfl|h
  ·exact⟨0,by simp,by simp,by simp,by rw[rdArc_nat];rfl⟩
  ·obtain⟨i,h1,h2,h3,h4⟩:=twoL_mem l f g e h
   refine⟨i+1,by simp;omega,by simp;omega,by simp;omega,?_⟩
   rw[h4,rdArc_nat,rdArc_nat]
   rfl
theorem twoL_cost: ∀ (l:List S74) (f g:List Int),f.length=l.length→g.length=l.length→costT (twoL l f g) Two.f=payS l f∧costT (twoL l f g) Two.g=payS l g
 |[],[],[],_,_=>⟨rfl,rfl⟩
 |[],_::_,_,h,_=>by simp at h
 |[],[],_::_,_,h=>by simp at h
 |_::_,[],_,h,_=>by simp at h
 |_::_,_::_,[],_,h=>by simp at h
 |a::l,x::f,y::g,h1,h2=>by
  obtain⟨e1,e2⟩:=twoL_cost l f g (by simpa using h1) (by simpa using h2)
  constructor
  ·show x * a.f3+costT (twoL l f g) Two.f=x * a.f3+payS l f
   rw[e1]
  ·show y * a.f3+costT (twoL l f g) Two.g=y * a.f3+payS l g
   rw[e2]
theorem twoL_bal: ∀ (l:List S74) (f g:List Int) (v:Nat),(∀ a,a∈l→0≤a.f0∧0≤a.f1)→f.length=l.length→g.length=l.length→balT (twoL l f g) Two.f v=bal l f v∧balT (twoL l f g) Two.g v=bal l g v
 |[],[],[],_,_,_,_=>⟨rfl,rfl⟩
 |[],_::_,_,_,_,h,_=>by simp at h
 |[],[],_::_,_,_,_,h=>by simp at h
 |_::_,[],_,_,_,h,_=>by simp at h
 |_::_,_::_,[],_,_,_,h=>by simp at h
 |a::l,x::f,y::g,v,ha,h1,h2=>by
  obtain⟨e1,e2⟩:=twoL_bal l f g v (fun a h=>ha a (List.mem_cons_of_mem _ h)) (by simpa using h1) (by simpa using h2)
  have hp:=ha a List.mem_cons_self
  have c0:(a.f0.toNat=v)↔(a.f0=(v:Int)):=by omega
  have c1:(a.f1.toNat=v)↔(a.f1=(v:Int)):=by omega
  constructor
  ·show ((if a.f0.toNat=v then x else 0) - (if a.f1.toNat=v then x else 0))+balT (twoL l f g) Two.f v=(if a.f0=(v:Int) then x else 0) - (if a.f1=(v:Int) then x else 0)+bal l f v
   rw[e1]
   simp only[c0,c1]
  ·show ((if a.f0.toNat=v then y else 0) - (if a.f1.toNat=v then y else 0))+balT (twoL l f g) Two.g v=(if a.f0=(v:Int) then y else 0) - (if a.f1=(v:Int) then y else 0)+bal l g v
   rw[e2]
   simp only[c0,c1]
def worthS (l:List S74) (F:List Int) (s:Nat) (c:Int):Int:=c * bal l F s - payS l F
theorem worth_top {l:List S74} {F G:List Int} {n s t:Nat} {c:Int} (hf:IsFlow l F n s t) (hg:IsFlow l G n s t) (hs:s<n) (ht:t<n) (hst:s≠t) {p:Nat→Int} (hp:TightP l F p) (h0:p s=0) (h1:p t=c):worthS l G s c≤worthS l F s c:=by
 obtain⟨e1,e2⟩:=twoL_cost l F G hf.right.len hg.right.len
 have hpos: ∀ a,a∈l→0≤a.f0∧0≤a.f1:=fun a ha=>by have:=ends_arcs hf.right.ends a ha;omega
 have hlt: ∀ e,e∈twoL l F G→e.a<n∧e.b<n:=by
  intro e he
  obtain⟨i,hi,_,_,rfl⟩:=twoL_mem l F G e he
  have:=hf.right.ends i hi
  unfold eFrom eTo at this
  show (rd_T74 l i).f0.toNat<n∧(rd_T74 l i).f1.toNat<n
  omega
 have key:=cheapest (⟨t,s, -c,bal l F s,bal l G s⟩::twoL l F G) n p ?_ ?_ ?_
 ·simp only[costT,e1,e2,Int.mul_neg] at key
  unfold worthS
  rw[Int.mul_comm c,Int.mul_comm c]
  omega
 ·intro e he
  rcases List.mem_cons.1 he with rfl|he
  ·exact⟨ht,hs⟩
  ·exact hlt e he
 ·intro e he
  rcases List.mem_cons.1 he with rfl|he
  ·exact⟨fun _=>by show p s≤p t+ -c;omega,fun _=>by show p t≤p s - -c;omega⟩
  ·obtain⟨i,hi,_,_,rfl⟩:=twoL_mem l F G e he
   have hn:=hf.right.nums i hi
   have hm:=hg.right.nums i hi
   have t1:=hp ⟨i,false⟩ ⟨i,hi,rfl⟩
   have t2:=hp ⟨i,true⟩ ⟨i,hi,rfl⟩
   unfold stRoom toP frP stTime stFrom stTo eFrom eTo at t1 t2
   simp only[Bool.false_eq_true,if_false,if_true,Int.toNat_natCast] at t1 t2
   constructor
   ·intro h
    have h:F.getD i 0<G.getD i 0:=h
    show p (rd_T74 l i).f1.toNat≤p (rd_T74 l i).f0.toNat+(rd_T74 l i).f3
    exact t1 (by omega)
   ·intro h
    have h:G.getD i 0<F.getD i 0:=h
    show p (rd_T74 l i).f0.toNat≤p (rd_T74 l i).f1.toNat - (rd_T74 l i).f3
    have:=t2 (by omega)
    omega
 ·intro v hv
  obtain⟨b1,b2⟩:=twoL_bal l F G v hpos hf.right.len hg.right.len
  have f1:=flow_ends hf hs ht hst
  have g1:=flow_ends hg hs ht hst
  show ((if t=v then bal l F s else 0) - (if s=v then bal l F s else 0))+balT (twoL l F G) Two.f v=((if t=v then bal l G s else 0) - (if s=v then bal l G s else 0))+balT (twoL l F G) Two.g v
  rw[b1,b2]
  by_cases hvt:t=v
  ·subst hvt
   rw[Yx rfl,Yx rfl,Yy hst,Yy hst,f1,g1]
   omega
  ·rw[Yy hvt,Yy hvt]
   by_cases hvs:s=v
   ·subst hvs
    rw[Yx rfl,Yx rfl]
    omega
   ·rw[Yy hvs,Yy hvs,hf.keeps v (by omega) (by omega) (by omega) (by omega),hg.keeps v (by omega) (by omega) (by omega) (by omega)]
structure SpanOk (l:List S74) (F:List Int) (n s t:Nat) (c:Int):Prop where
 flow:IsFlow l F n s t
 nums: ∃ q:Nat→Int,TightP l F q∧q s=0∧q t<c
theorem SpanOk.top {l:List S74} {F G:List Int} {n s t:Nat} {c:Int} (h:SpanOk l F n s t c) (hg:IsFlow l G n s t) (hs:s<n) (ht:t<n) (hst:s≠t) {d:Nat→Option Int} (hd:TightO l F d) (h0:d s=some 0) (h1: ∀ x,d t=some x→c≤x):worthS l G s c≤worthS l F s c:=by
 obtain⟨q,hq,q0,q1⟩:=h.nums
 refine worth_top h.flow hg hs ht hst (p:=minO d (fun v=>q v+(c - q t))) (TightP.min_ hd (hq.plus _)) ?_ ?_
 ·rw[minO_some h0];show min 0 (q s+(c - q t))=0;omega
 ·unfold minO
  cases hx:d t with
  |none=>show q t+(c - q t)=c;omega
  |some x=>have:=h1 x hx;show min x (q t+(c - q t))=c;omega
end H
namespace P
attribute [local go_sem] max2_int min2_int max_two min_two max_three min_three max_four min_four
def level_Seeker_Steps.f (Zc:Int) (Zb:Bool) (Za:List (S74)) (Zs:List Int) (l0_4:List (List (S38))) (a1:Int):Option ((List (S38))):=if 0≤a1 then(if a1<(l0_4.length:Int) then(some (rd_L4 l0_4 a1)) else(none)) else(none)
set_option maxHeartbeats 8000000 in
set_option maxRecDepth 100000 in
theorem level_Seeker_Steps.calls (Zc:Int) (Zb:Bool) (Ze:Option Addr) (Zd:Nat) (Za:List (S74)) (Xq:Option Addr) (Xr:Nat) (Zs:List Int) (P0_4_:Nat→Prop) (A0_4:Option Addr) (c0_4:Nat) (l0_4:List (List (S38))) (a1:Int) (r:List (S38)) (w:World) (Zq:Kd.C k74 w Ze Za.length Za) (Zr:Za.length≤Zd) (hr0_3:Kd.C (Kd.int .i64) w Xq Zs.length Zs) (hc0_3:Zs.length≤Xr) (hs0_4:Kd.V (Kd.slice 38 k38) 34 w w.heap.size (fun k_=>P0_4_ k_) (.slice A0_4 l0_4.length c0_4) l0_4) (h:level_Seeker_Steps.f Zc Zb Za Zs l0_4 a1=some r):
  Calls Try.prog 140 #[.agg #[.int .i64 Zc, .bool Zb, .slice Ze Za.length Zd, .slice Xq Zs.length Xr, .slice A0_4 l0_4.length c0_4], .int .i64 a1] w fun e w'=> ∃ v0_:Value,e= .returned (v0_)∧Kd.V k38 38 w' w.heap.size (fun k_=>(P0_4_ k_∨w.heap.size≤k_)) v0_ r∧Below w.heap.size w w':=by
 have hu118:=Try.underlying118
 have Zl:=Ya Zq
 have Xd:=Ya Zr
 clear Zq Zr
 have HR0_3:=Ya hr0_3
 have HC0_3:=Ya hc0_3
 clear hr0_3 hc0_3
 have HO0_4:=Ya (show Kd.V (Kd.slice 38 k38) 34 w w.heap.size (fun k_=>(P0_4_ k_∨w.heap.size≤k_)) (.slice A0_4 l0_4.length c0_4) l0_4 from Kd.V_mono hs0_4 (fun k_ hk=> .inl hk))
 have HB:=Ya (Yo w.heap.size w)
 have H:(if 0≤a1 then(if a1<(l0_4.length:Int) then(some (rd_L4 l0_4 a1)) else(none)) else(none))=some r:=h
 clear h
 by_cases c3:0≤a1
 rotate_left
 ·rw[Yy c3] at H
  exact absurd H (by simp)
 rw[Yx c3] at H
 have c3b0:decide (0≤a1)=true:=Yv c3
 clear c3
 by_cases c4:a1<(l0_4.length:Int)
 rotate_left
 ·rw[Yy c4] at H
  exact absurd H (by simp)
 rw[Yx c4] at H
 have c4b0:decide (a1<(l0_4.length:Int))=true:=Yv c4
 clear c4
 obtain rfl:=Option.some.inj H
 go_enter Try.func140,Try.ntmps140
 go_wp2_with (first|((with_reducible refine gate_dst (N:=2) rfl ?_);refine Yz ?hg (N:=2) ?hd (cs:= #[.int .i64 Zc, .bool Zb, .slice Ze Za.length Zd, .slice Xq Zs.length Xr, .slice A0_4 l0_4.length c0_4]) (t:=118) ?hr ?_;(case hd=>rfl);(case hg=>rfl);(case hr=>first|(go_simp;done)|(go_simp;rfl));intro gb188 hg w5 Zf hb;have n0_:=Ya (Kd.V_below (Kd.V_elderB (by(with_reducible repeat(first|apply Kd.V_alloc|apply Kd.V_drewN|apply Kd.V_drew));exact HO0_4.out) gb188 (Nat.le_of_eq hg.symm)) hb);have n1_:=Ya (Yk (by repeat(first|(with_reducible first|exact HB.out|apply Ye|apply Yd|apply Yg)|exact HB.out)) hb);have n2_:=Ya (Zf);have n3_:=Ya ((by rw[hg];exact(Yi (by repeat(first|(with_reducible first|exact HB.out|apply Ye|apply Yd|apply Yg)|exact HB.out))):w.heap.size≤gb188));have n4_:=Ya ((by rw[hg];exact(Yi (by repeat(first|(with_reducible first|exact HB.out|apply Ye|apply Yd|apply Yg)|exact HB.out))):w.heap.size≤gb188));clear HO0_4;clear HB;have HO0_4:=n0_;have HB:=n1_;have BK188:=n2_;have GW188:=n3_;have GE188:=n4_;clear n0_ n1_ n2_ n3_ n4_;clear hb Zf hg;have hcz6_0:w5.cell? ⟨gb188,0,none⟩=some (.int .i64 Zc):=(Yc BK188.out 0).trans rfl;have hcz6_1:w5.cell? ⟨gb188,1,none⟩=some (.bool Zb):=(Yc BK188.out 1).trans rfl;have hcz6_2:w5.cell? ⟨gb188,2,none⟩=some (.slice Ze Za.length Zd):=(Yc BK188.out 2).trans rfl;have hcz6_3:w5.cell? ⟨gb188,3,none⟩=some (.slice Xq Zs.length Xr):=(Yc BK188.out 3).trans rfl;have hcz6_4:w5.cell? ⟨gb188,4,none⟩=some (.slice A0_4 l0_4.length c0_4):=(Yc BK188.out 4).trans rfl;have hfz6_0:=Yf BK188.out 0;have hfz6_1:=Yf BK188.out 1;have hfz6_2:=Yf BK188.out 2;have hfz6_3:=Yf BK188.out 3;have hfz6_4:=Yf BK188.out 4;have p189:0≤(a1:Int):=Yu (by first|(with_reducible assumption)|assumption);have q189:a1<(l0_4.length:Int):=Yu (by first|(with_reducible assumption)|assumption);obtain⟨ad189,A189_0,c189_0,e189,hx189_0,hl189_0,hi189_0⟩:=at_L4 (Kd.V_reads' HO0_4.out).2.2 a1 p189 q189;cases e189;obtain⟨ce189,hce189,hMe189,hcc189⟩:=Kd.V_get HO0_4.out [] a1 p189 (by first|exact q189|exact Yu (by first|(with_reducible assumption)|assumption)|(have e_:=(Kd.V_reads' HO0_4.out).1;omega));obtain⟨ua189_0,uc189_0,rfl,ul189_0,ge189_0⟩:=Kd.FK_slice_open hMe189;have hv189_0:=hcc189 0 _ rfl;rw[Nat.add_zero,show ((Kd.slice 38 k38)).sz=1 from rfl,Nat.mul_one] at hv189_0;replace hv189_0:=Option.some.inj (hv189_0.symm.trans hx189_0);injection hv189_0 with hva_ hvn_ hvc_;rw[hva_] at ge189_0;rw[hvc_] at ul189_0;have HL189_0:=Ya (show Kd.V k38 38 _ w.heap.size _ _ (rd_L4 l0_4 a1) from Kd.V_mk ul189_0 ge189_0);clear hva_ hvn_ hvc_ ge189_0 ul189_0;clear hcc189 hce189;have HR189_0:=Ya hi189_0;have HC189_0:=Ya hl189_0;clear hi189_0 hl189_0;replace p189:=eq_true p189;replace q189:=eq_true q189))
 go_ret
 exact⟨_,by first|rfl|(simp[errW_none,errW_some]<;>rfl)|(simp[*,errW_none,errW_some]<;>rfl),by(with_reducible repeat(first|apply Kd.V_alloc|apply Kd.V_drewN|apply Kd.V_drew));exact Kd.V_mono HL189_0.out (fun _ hk=>hk.1),by repeat(first|(with_reducible first|exact HB.out|apply Ye|apply Yd|apply Yg|refine Yh ?_ GE188.out)|exact HB.out)⟩
end P
namespace H
open P
def okR (gd gi gb:Nat) (k:Nat):Prop:=k≠gd∧k≠gi∧k≠gb
structure Fm (n0:Nat) (Zb:Bool) (A2:Option Addr) (c2:Nat) (l:List S74) (A3:Option Addr) (c3:Nat) (F:List Int) (A4:Option Addr) (c4:Nat) (gd gi gb cd ci cb b0 g2 g3:Nat) (w:World) (x:Rch) (w':World):Prop where
 D:Kd.R (Kd.int .i64) 3 w' b0 (fun _=>True) (.slice (some ⟨gd,0,none⟩) n0 cd) x.D
 I:Kd.R Kd.bool 4 w' b0 (fun _=>True) (.slice (some ⟨gi,0,none⟩) n0 ci) x.I
 B:Kd.R k38 38 w' b0 (fun _=>True) (.slice (some ⟨gb,0,none⟩) n0 cb) x.B
 b2:w'.heap[g2]? =some (.cells #[.int .i64 n0, .bool Zb, .slice A2 l.length c2, .slice A3 F.length c3, .slice A4 n0 c4] 118 (0,0))
 b3:w'.heap[g3]? =some (.cells #[.slice (some ⟨gd,0,none⟩) n0 cd, .slice (some ⟨gi,0,none⟩) n0 ci, .slice (some ⟨gb,0,none⟩) n0 cb] 109 (0,0))
 arcs:Kd.F k74 w' (okR gd gi gb) A2 l.length l
 flow:Kd.F (Kd.int .i64) w' (okR gd gi gb) A3 F.length F
 rows:Kd.V (Kd.slice 38 k38) 34 w' w.heap.size (okR gd gi gb) (.slice A4 n0 c4) (rowsAt l n0 n0)
 kp:Kp gd gi gb w w'
section
variable {n0:Nat} {Zb:Bool} {A2:Option Addr} {c2:Nat} {l:List S74} {A3:Option Addr} {c3:Nat} {F:List Int} {A4:Option Addr} {c4:Nat} {gd gi gb cd ci cb b0 g2 g3:Nat} {w:World} {x:Rch} {w1 w2:World}
theorem Fm.below (h:Fm n0 Zb A2 c2 l A3 c3 F A4 c4 gd gi gb cd ci cb b0 g2 g3 w (x) (w1)) (hb:Below w1.heap.size w1 w2):Fm n0 Zb A2 c2 l A3 c3 F A4 c4 gd gi gb cd ci cb b0 g2 g3 w (x) (w2):=
 ⟨Ys h.D hb,Ys h.I hb,Ys h.B hb,Yn h.b2 hb,Yn h.b3 hb,Kd.F_below h.arcs hb,Kd.F_below h.flow hb,Kd.V_below h.rows hb,h.kp.below hb⟩
theorem Fm.still (h:Fm n0 Zb A2 c2 l A3 c3 F A4 c4 gd gi gb cd ci cb b0 g2 g3 w (x) (w1)) (b:Bool):Fm n0 Zb A2 c2 l A3 c3 F A4 c4 gd gi gb cd ci cb b0 g2 g3 w ({ x with still:=b }) (w1):=⟨h.D,h.I,h.B,h.b2,h.b3,h.arcs,h.flow,h.rows,h.kp⟩
theorem Fm.blocks (h:Fm n0 Zb A2 c2 l A3 c3 F A4 c4 gd gi gb cd ci cb b0 g2 g3 w (x) (w1)) (hx:x.Ok n0) (hn:0<n0):gd≠gi∧gd≠gb∧gi≠gb∧g2≠gd∧g2≠gi∧g2≠gb∧g3≠gd∧g3≠gi∧g3≠gb∧gd<w1.heap.size∧gi<w1.heap.size∧gb<w1.heap.size:=by
 obtain⟨a,ca,ea,_,hla,ca_,ha⟩:=Kd.R_form h.D (by rw[hx.hD];exact hn)
 obtain⟨b,cb_,eb,_,hlb,cb2,hb⟩:=Kd.R_form h.I (by rw[hx.hI];exact hn)
 obtain⟨c,cc,ec,_,hlc,cc_,hc⟩:=Kd.R_form h.B (by rw[hx.hB];exact hn)
 injection ea with ea _ _
 injection ea with ea
 injection ea with ea
 injection eb with eb _ _
 injection eb with eb
 injection eb with eb
 injection ec with ec _ _
 injection ec with ec
 injection ec with ec
 subst ea
 subst eb
 subst ec
 have ne: ∀ {p q:Nat} {c1 c2:Array Value} {t1 t2:Nat},w1.heap[p]? =some (.cells c1 t1 (0,0))→w1.heap[q]? =some (.cells c2 t2 (0,0))→t1≠t2→p≠q:=by
  intro p q c1 c2 t1 t2 h1 h2 ht e
  subst e
  rw[h1] at h2
  injection h2 with h2
  injection h2 with _ h2
  exact ht h2
 exact⟨ne ha hb (by decide),ne ha hc (by decide),ne hb hc (by decide),ne h.b2 ha (by decide),ne h.b2 hb (by decide),ne h.b2 hc (by decide),ne h.b3 ha (by decide),ne h.b3 hb (by decide),ne h.b3 hc (by decide),hla,hlb,hlc⟩
theorem Fm.dv (h:Fm n0 Zb A2 c2 l A3 c3 F A4 c4 gd gi gb cd ci cb b0 g2 g3 w (x) (w1)) {v:Nat} (hv:v<n0):w1.cell? ⟨gd,v,none⟩=some (.int .i64 (x.D.getD v 0)):=by
 obtain⟨ad,e,hc⟩:=Kd.at_int (Kd.R_reads' h.D).2.2 (v:Int) (by omega) (by have:=(Kd.R_reads' h.D).1;omega)
 cases e
 simpa [rd,add_plain] using hc
theorem Fm.iv (h:Fm n0 Zb A2 c2 l A3 c3 F A4 c4 gd gi gb cd ci cb b0 g2 g3 w (x) (w1)) {v:Nat} (hv:v<n0):w1.cell? ⟨gi,v,none⟩=some (.bool (x.I.getD v false)):=by
 obtain⟨ad,e,hc⟩:=Kd.at_bool (Kd.R_reads' h.I).2.2 (v:Int) (by omega) (by have:=(Kd.R_reads' h.I).1;omega)
 cases e
 simpa [rdOf,add_plain] using hc
theorem Fm.bv (h:Fm n0 Zb A2 c2 l A3 c3 F A4 c4 gd gi gb cd ci cb b0 g2 g3 w (x) (w1)) {v:Nat} (hv:v<n0):w1.cell? ⟨gb,v * 2,none⟩=some (.int .i64 (rd_T38 x.B v).f0)∧w1.cell? ⟨gb,v * 2+1,none⟩=some (.bool (rd_T38 x.B v).f1):=by
 obtain⟨ad,e,h1,h2⟩:=at_T38 (Kd.R_reads' h.B).2.2 (v:Int) (by omega) (by have:=(Kd.R_reads' h.B).1;omega)
 cases e
 simp only[Int.toNat_natCast,add_plain] at h1 h2
 exact⟨h1,h2⟩
theorem Fm.free (h:Fm n0 Zb A2 c2 l A3 c3 F A4 c4 gd gi gb cd ci cb b0 g2 g3 w (x) (w1)) (hn:0<n0) (j:Nat):w1.frozen? ⟨gd,j,none⟩=false∧w1.frozen? ⟨gi,j,none⟩=false∧w1.frozen? ⟨gb,j,none⟩=false:=by
 have h1:=(Kd.R_reads' h.D).1
 have h2:=(Kd.R_reads' h.I).1
 have h3:=(Kd.R_reads' h.B).1
 obtain⟨a,ca,ea,_,hla,ca_,ha⟩:=Kd.R_form h.D (by omega)
 obtain⟨b,cb_,eb,_,hlb,cb2,hb⟩:=Kd.R_form h.I (by omega)
 obtain⟨c,cc,ec,_,hlc,cc_,hc⟩:=Kd.R_form h.B (by omega)
 injection ea with ea _ _
 injection ea with ea
 injection ea with ea
 injection eb with eb _ _
 injection eb with eb
 injection eb with eb
 injection ec with ec _ _
 injection ec with ec
 injection ec with ec
 subst ea
 subst eb
 subst ec
 exact⟨Yf ha j,Yf hb j,Yf hc j⟩
theorem Fm.put (h:Fm n0 Zb A2 c2 l A3 c3 F A4 c4 gd gi gb cd ci cb b0 g2 g3 w (x) (w1)) (hx:x.Ok n0) (hn:0<n0) {u:Nat} (hu:u<n0) (d:Int) (s:S38):
  Fm n0 Zb A2 c2 l A3 c3 F A4 c4 gd gi gb cd ci cb b0 g2 g3 w ((⟨x.D.set u d,x.I.set u true,x.B.set u s,false⟩:Rch)) (((((w1.setCell ⟨gd,u,none⟩ (.int .i64 d)).setCell ⟨gi,u,none⟩ (.bool true)).setCell ⟨gb,u * 2,none⟩ (.int .i64 s.f0)).setCell ⟨gb,u * 2+1,none⟩ (.bool s.f1))):=by
 obtain⟨n1,n2,n3,n4,n5,n6,n7,n8,n9,_,_,_⟩:=h.blocks hx hn
 -- the first store
 have d1:=Kd.R_putg h.D (u:Int) d
 simp only[Int.toNat_natCast] at d1
 have i1:=Kd.R_over' h.I (Kd.R_typed h.D) (by decide) d1.2
 have b1:=Kd.R_over' h.B (Kd.R_typed h.D) (by decide) d1.2
 have i2:=Kd.R_putg i1 (u:Int) true
 simp only[Int.toNat_natCast] at i2
 have d2:=Kd.R_over' d1.1 (Kd.R_typed i1) (by decide) i2.2
 have b2:=Kd.R_over' b1 (Kd.R_typed i1) (by decide) i2.2
 have hB:=(Kd.R_reads' b2).1
 obtain⟨c,hcl,_,hcc,_⟩:=Kd.R_elem b2 z38 (u:Int) (by omega) (by omega)
 have b3:=Kd.R_seg b2 (u:Int) (by omega) (by omega) (c:=c) (seg:=[.int .i64 s.f0, .bool s.f1]) (j:=0) hcl hcc (show 2≤2 from Nat.le_refl _) (x':=s) (okp:=fun _=>False)
  (by rw[List.drop_eq_nil_of_le (by rw[hcl];exact Nat.le_refl _)];exact k38_mkM _ _ _ s) (fun _ hk=>hk.elim)
 simp only[Int.toNat_natCast] at b3
 have d3:=Kd.R_over' d2 (Kd.R_typed b2) (by decide) b3.2
 have i3:=Kd.R_over' i2.1 (Kd.R_typed b2) (by decide) b3.2
 have far: ∀ {g t:Nat} {cs:Array Value},w1.heap[g]? =some (.cells cs t (0,0))→g≠gd→g≠gi→g≠gb→((((w1.setCell ⟨gd,u,none⟩ (.int .i64 d)).setCell ⟨gi,u,none⟩ (.bool true)).setCell ⟨gb,u * 2,none⟩ (.int .i64 s.f0)).setCell ⟨gb,u * 2+1,none⟩ (.bool s.f1)).heap[g]? =some (.cells cs t (0,0)):=
  fun hb p1 p2 p3=>blk_far (blk_far (blk_far (blk_far hb p1 _) p2 _) p3 _) p3 _
 refine⟨d3,i3,b3.1,far h.b2 n4 n5 n6,far h.b3 n7 n8 n9,?_,?_,?_,?_⟩
 ·exact Kd.F_far (p:=⟨gb,u * 2+1,none⟩) (Kd.F_far (p:=⟨gb,u * 2,none⟩) (Kd.F_far (p:=⟨gi,u,none⟩) (Kd.F_far (p:=⟨gd,u,none⟩) h.arcs (fun _ hk=>hk.1) _) (fun _ hk=>hk.2.1) _) (fun _ hk=>hk.2.2) _) (fun _ hk=>hk.2.2) _
 ·exact Kd.F_far (p:=⟨gb,u * 2+1,none⟩) (Kd.F_far (p:=⟨gb,u * 2,none⟩) (Kd.F_far (p:=⟨gi,u,none⟩) (Kd.F_far (p:=⟨gd,u,none⟩) h.flow (fun _ hk=>hk.1) _) (fun _ hk=>hk.2.1) _) (fun _ hk=>hk.2.2) _) (fun _ hk=>hk.2.2) _
 ·exact Kd.V_far (p:=⟨gb,u * 2+1,none⟩) (Kd.V_far (p:=⟨gb,u * 2,none⟩) (Kd.V_far (p:=⟨gi,u,none⟩) (Kd.V_far (p:=⟨gd,u,none⟩) h.rows (fun _ hk=>hk.1) _) (fun _ hk=>hk.2.1) _) (fun _ hk=>hk.2.2) _) (fun _ hk=>hk.2.2) _
 ·exact(((h.kp.set (.inl rfl) _ _).set (.inr (.inl rfl)) _ _).set (.inr (.inr rfl)) _ _).set (.inr (.inr rfl)) _ _
end
end H
end Go.Proofs.Ytkcpanpdipmmmaa
