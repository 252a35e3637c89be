/- What the law's row needs of these texts, taken out of them by wip/tool/mini.py: QLists QStepsLaw QSetLaw QQuietB QSortIns QSymLo QSymHi QSymMid QSortAll QArrRow QSetBase QBase QRefLaw P38 P30 P31 P32 P37 P39 QNet P33 P84 QFlowA QFlowB. -/
import Derived.Test.YtoedkglggapggaaMjjigcl
import Derived.RegionTactic
import Derived.ChangeAlike
import Derived.BigRegion
import Derived.LoopTactic
import Derived.WalkKit
import Derived.Laws.AppendOwn
import Derived.Test.YtoedkglggapggaaVnllcin
import Derived.Deep.QuietTactic
import Derived.Deep.RegionWith
import Derived.Deep.RegionHeld3
import Derived.StillTailTactics
set_option linter.unusedVariables false
set_option linter.unusedSimpArgs false
open Go.RowKit Go.Proofs.YtoedkglggapggaaW.PrintWords Go.Proofs.YtoedkglggapggaaW.PrintLast Go.Proofs.YtoedkglggapggaaW.PrintMore
namespace Go.Proofs.Ytoedkglggapggaa
namespace H
open P
theorem infoRow:(Try.prog.info? 31).map (fun i=>(i.zero,i.size,i.bytes))=some (some (.slice none 0 0),1,24):=by kernel_rfl
def eFrom (x:S50):Int:=x.f0
def eTo (x:S50):Int:=x.f1
def lsAt (E:S50→Int) (l:List S50) (n:Nat):Nat→List (List Int)
 |0=>List.replicate n []
 |k+1=>(lsAt E l n k).set (E (rd_T50 l k)).toNat (rd_L5 (lsAt E l n k) (E (rd_T50 l k)) ++ [(k:Int)])
theorem lsAt_len (E:S50→Int) (l:List S50) (n k:Nat):(lsAt E l n k).length=n:=by
 induction k with
 |zero=>exact List.length_replicate
 |succ k ih=>show (List.set _ _ _).length=n;rw[List.length_set,ih]
theorem lsAt_row (E:S50→Int) (l:List S50) (n k:Nat) (i:Int):(rd_L5 (lsAt E l n k) i).length≤k:=by
 induction k generalizing i with
 |zero=>
  unfold rd_L5 lsAt;rw[List.getD_eq_getElem?_getD,List.getElem?_replicate];split<;>simp
 |succ k ih=>
  unfold rd_L5;show ((List.set _ _ _).getD i.toNat []).length≤k+1;rw[List.getD_eq_getElem?_getD,List.getElem?_set];have hi:=ih i;unfold rd_L5 at hi;rw[List.getD_eq_getElem?_getD] at hi;split
  ·split
   ·have:=ih (E (rd_T50 l k))
    simp only[Option.getD_some,List.length_append,List.length_cons,List.length_nil];omega
   ·simp
  ·omega
set_option maxHeartbeats 4000000 in
set_option maxRecDepth 100000 in
theorem listsFrom_calls (Zc:Int) (Zb:Bool) (Ze:Option Addr) (Zd:Nat) (Za:List S50) (w:World) (Zp:Kd.C k50 w Ze Za.length Za) (Zq:Za.length≤Zd) (h0:0≤Zc) (h1:Zc≤1000000) (hl:Za.length≤1000000) (hE: ∀ k:Nat,k<Za.length→0≤eFrom (rd_T50 Za k)∧eFrom (rd_T50 Za k)<Zc):
  Calls Try.prog 95 #[.agg #[.int .i64 Zc, .bool Zb, .slice Ze Za.length Zd], .func (.func 96) #[] #[]] w fun e w'=> ∃ v0_:Value,e= .returned v0_∧Kd.S (Kd.slice 3 (Kd.int .i64)) 31 w' w.heap.size (fun _=>True) v0_ (lsAt eFrom Za Zc.toNat Za.length)∧Below w.heap.size w w':=by
 have hu24:=Try.underlying24;have hu74:=Try.underlying50;have Zj:=Ya Zp;have Zs:=Ya Zq;have HE:=Ya hE;clear Zp Zq hE;have HB:=Ya (Yo w.heap.size w);have c2b1:decide (0≤Zc)=true:=Yv h0;have c3b1:decide ((Zc:Int).toNat≤11728124029610)=true:=Yv (by omega);have c2b0:=eq_true h0;have c3b0:((Zc:Int).toNat≤11728124029610)=True:=eq_true (by omega);have HH0:=Ya h0;have HH1:=Ya h1;clear h0 h1;go_enter Try.func95,Try.ntmps95;go_wp2_with (first|((with_reducible refine gate_dst (N:=2) rfl ?_);refine Yz ?hg (N:=2) ?hd (cs:= #[.int .i64 Zc, .bool Zb, .slice Ze Za.length Zd]) (t:=24) ?hr ?_;(case hd=>rfl);(case hg=>rfl);(case hr=>first|(go_simp;done)|(go_simp;rfl));intro Wb hg w4 Zf hb;have n0_:=Ya (Yk (by repeat(first|(with_reducible first|exact HB.out|apply Ye|apply Yd|apply Yg)|exact HB.out)) hb);have n1_:=Ya (Zf);have n3_:=Ya ((by rw[hg];exact(Yi (by repeat(first|(with_reducible first|exact HB.out|apply Ye|apply Yd|apply Yg)|exact HB.out))):w.heap.size≤Wb));clear HB;have HB:=n0_;have Zw:=n1_;have Jc:=n3_;clear n0_ n1_ n3_;clear hb Zf hg;have hcz5_0:w4.cell? ⟨Wb,0,none⟩=some (.int .i64 Zc):=(Yc Zw.out 0).trans rfl;have hcz5_1:w4.cell? ⟨Wb,1,none⟩=some (.bool Zb):=(Yc Zw.out 1).trans rfl;have hcz5_2:w4.cell? ⟨Wb,2,none⟩=some (.slice Ze Za.length Zd):=(Yc Zw.out 2).trans rfl;have hfz5_0:=Yf Zw.out 0;have hfz5_1:=Yf Zw.out 1;have hfz5_2:=Yf Zw.out 2)|((with_reducible refine gate_dst (N:=11) rfl ?_);refine Kd.S_make (Kd.slice 3 (Kd.int .i64)) _ 31 rfl (N:=11) rfl 124 _ _ rfl Zc rfl rfl Try.underlying124 (.slice none 0 0) 24 infoRow rfl (by decide) (by omega) [] (ok:=fun _=>True) (okp:=fun _=>True) ⟨_,rfl,Kd.R_nil _ _ _ _ _⟩ (fun _ hk=>hk) trivial (Yu (by first|(with_reducible assumption)|assumption)) (Nat.le_trans (Nat.mul_le_mul_right _ (Yu (by first|(with_reducible assumption)|assumption):Zc.toNat≤11728124029610)) (by omega)) (Yo _ _) (Nat.le_refl _) ?_;intro v113 w6 ho7 hb hg_ hnew_;clear hg_ hnew_;have n0_:=Ya (Kd.S_lower ho7 (Yi (by repeat(first|(with_reducible first|exact HB.out|apply Ye|apply Yd|apply Yg|refine Yh ?_ Jc.out)|exact HB.out))));have n1_:=Ya (Yn (g:=Wb) (o:= .cells #[.int .i64 Zc, .bool Zb, .slice Ze Za.length Zd] 24 (0,0)) (by(with_reducible repeat(first|refine Yl ?_ _|refine Ym ?_|refine Yj ?_ _));exact Zw.out) hb);have n2_:=Ya (Yk (by repeat(first|(with_reducible first|exact HB.out|apply Ye|apply Yd|apply Yg|refine Yh ?_ Jc.out)|exact HB.out)) hb);clear Zw;clear HB;have HO114:=n0_;have Zw:=n1_;have HB:=n2_;clear n0_ n1_ n2_;clear hb ho7;have Uj:w6.cell? ⟨Wb,0,none⟩=some (.int .i64 Zc):=(Yc Zw.out 0).trans rfl;have Uk:w6.cell? ⟨Wb,1,none⟩=some (.bool Zb):=(Yc Zw.out 1).trans rfl;have Ja:w6.cell? ⟨Wb,2,none⟩=some (.slice Ze Za.length Zd):=(Yc Zw.out 2).trans rfl;have Ul:=Yf Zw.out 0;have Um:=Yf Zw.out 1;have Jb:=Yf Zw.out 2));go_loopw [15] (fun v15 w'=> ∃ k:Nat,k≤Za.length∧v15= .int .i64 k∧Aside0 (Kd.S (Kd.slice 3 (Kd.int .i64)) 31 w' w.heap.size (fun _=>True) v113 (lsAt eFrom Za Zc.toNat k))∧Aside0 (w'.heap[Wb]? =some (.cells #[.int .i64 Zc, .bool Zb,(.slice Ze Za.length Zd)] 24 (0,0)))∧Aside0 (Below w.heap.size w w')) (fun v15 _=>Za.length - (intOf v15).toNat)
 case atStart=>exact⟨0,Nat.zero_le _,rfl,⟨by(with_reducible repeat(first|apply Kd.S_alloc|apply Kd.S_drewN|apply Kd.S_drew));exact HO114.out⟩,⟨by(with_reducible repeat(first|refine Yl ?_ _|refine Ym ?_|refine Yj ?_ _));exact Zw.out⟩,⟨(by repeat(first|(with_reducible first|exact HB.out|apply Ye|apply Yd|apply Yg|refine Yh ?_ Jc.out)|exact HB.out))⟩⟩
 case round=>
  try clear c2b0
  try clear c2b1
  try clear c3b0
  try clear c3b1
  try clear hcz5_0 hcz5_1 hcz5_2 Uj Uk Ja hfz5_0 hfz5_1 hfz5_2 Ul Um Jb
  clear HO114 Zw HB;obtain⟨k,hk,rfl,HO_3,Zw,HB⟩:=hrel;by_cases hlt:k<Za.length
  ·have hEk:=HE.out k hlt
   obtain⟨ex,hex0⟩: ∃ ex,eFrom (rd_T50 Za (k:Int))=ex:=⟨_,rfl⟩;have hex:=Ya hex0;have LSN:Aside0 (lsAt eFrom Za Zc.toNat (k+1)=(lsAt eFrom Za Zc.toNat k).set (ex:Int).toNat (rd_L5 (lsAt eFrom Za Zc.toNat k) ex ++ [(k:Int)])):=⟨by rw[← hex0];rfl⟩;rw[hex0] at hEk;clear hex0;have hlen:=lsAt_len eFrom Za Zc.toNat k;have c12b0:decide (0≤ex)=true:=Yv hEk.1;have c13b0:decide (ex<((lsAt eFrom Za Zc.toNat k).length:Int))=true:=Yv (by rw[hlen];have:=HH0.out;omega);have LMc14:Aside0 ((rd_L5 (lsAt eFrom Za Zc.toNat k) ex).length<17592186044416):=⟨by have:=lsAt_row eFrom Za Zc.toNat k ex;omega⟩;clear hEk hlen;have p115:0≤((k:Nat):Int):=by omega
   have q115:((k:Nat):Int)<(Za.length:Int):=by omega
   obtain⟨ad115,e115,hx115_0,hx115_1,hx115_2,hx115_3⟩:=at_T50 Zj.out (k:Int) p115 q115;simp only[Int.toNat_natCast] at hx115_0 hx115_1 hx115_2 hx115_3;cases e115;replace hx115_0:=(HB.out.cell (Yb w _ hx115_0)).trans hx115_0;replace hx115_1:=(HB.out.cell (Yb w _ hx115_1)).trans hx115_1;replace hx115_2:=(HB.out.cell (Yb w _ hx115_2)).trans hx115_2;replace hx115_3:=(HB.out.cell (Yb w _ hx115_3)).trans hx115_3;have c9b0:decide ((k:Int)<(Za.length:Int))=true:=Yv q115;go_wp2_with (first|((with_reducible refine gate_dst (N:=7) rfl ?_);refine Yz ?hg (N:=7) ?hd (cs:= #[.int .i64 0, .int .i64 0, .int .i64 0, .int .i64 0]) (t:=50) ?hr ?_;(case hd=>rfl);(case hg=>rfl);(case hr=>first|(go_simp;done)|(go_simp;rfl));intro Wj hg w16 Zf hb;have n0_:=Ya (Kd.S_below (by(with_reducible repeat(first|apply Kd.S_alloc|apply Kd.S_drewN|apply Kd.S_drew));exact HO_3.out) hb);have n1_:=Ya (Yn (g:=Wb) (o:=(.cells #[.int .i64 Zc, .bool Zb, .slice (some ad115) Za.length Zd] 24 (0,0))) (by(with_reducible repeat(first|refine Yl ?_ _|refine Ym ?_|refine Yj ?_ _));exact Zw.out) hb);have n2_:=Ya (Yk (by repeat(first|(with_reducible first|exact HB.out|apply Ye|apply Yd|apply Yg|refine Yh ?_ Jc.out)|exact HB.out)) hb);have n3_:=Ya (Zf);have n5_:=Ya ((by rw[hg];exact(Yi (by repeat(first|(with_reducible first|exact HB.out|apply Ye|apply Yd|apply Yg|refine Yh ?_ Jc.out)|exact HB.out))):w.heap.size≤Wj));have n6_:=Ya ((by rw[hg];exact Nat.ne_of_lt (blk_lt (g:=Wb) (o:=(.cells #[.int .i64 Zc, .bool Zb, .slice (some ad115) Za.length Zd] 24 (0,0))) (by(with_reducible repeat(first|refine Yl ?_ _|refine Ym ?_|refine Yj ?_ _));exact Zw.out)):Wb≠Wj));have n7_:=Ya ((by rw[hg];exact Nat.ne_of_gt (blk_lt (g:=Wb) (o:=(.cells #[.int .i64 Zc, .bool Zb, .slice (some ad115) Za.length Zd] 24 (0,0))) (by(with_reducible repeat(first|refine Yl ?_ _|refine Ym ?_|refine Yj ?_ _));exact Zw.out)):Wj≠Wb));clear HO_3;clear Zw;clear HB;have HO_3:=n0_;have Zw:=n1_;have HB:=n2_;have We:=n3_;have GE116:=n5_;have Vw:=n6_;have NB116_111:=n7_;clear n0_ n1_ n2_ n3_ n5_ n6_ n7_;clear hb Zf hg;have hnb17:=NB116_111.out;have hnc17:=Vw.out;have hcz18_0:w16.cell? ⟨Wj,0,none⟩=some (.int .i64 0):=(Yc We.out 0).trans rfl;have hcz18_1:w16.cell? ⟨Wj,1,none⟩=some (.int .i64 0):=(Yc We.out 1).trans rfl;have hcz18_2:w16.cell? ⟨Wj,2,none⟩=some (.int .i64 0):=(Yc We.out 2).trans rfl;have hcz18_3:w16.cell? ⟨Wj,3,none⟩=some (.int .i64 0):=(Yc We.out 3).trans rfl;have hfz18_0:=Yf We.out 0;have hfz18_1:=Yf We.out 1;have hfz18_2:=Yf We.out 2;have hfz18_3:=Yf We.out 3)|((with_reducible refine gate_store (t:=50) (p:=7) rfl ?_);refine store_event (t:=50) (p:=7) (v:= ?vo_w19) (w1:=((((w16.setCell ⟨Wj,0,none⟩ (.int .i64 (rd_T50 Za (k:Int)).f0)).setCell ⟨Wj,1,none⟩ (.int .i64 (rd_T50 Za (k:Int)).f1)).setCell ⟨Wj,2,none⟩ (.int .i64 (rd_T50 Za (k:Int)).f2)).setCell ⟨Wj,3,none⟩ (.int .i64 (rd_T50 Za (k:Int)).f3))) ?hg ?ho ?hn ?hr ?_;(case ho=>rfl);(case hg=>rfl);(case hn=>rfl);(case hr=>first|(go_simp;done)|(go_simp;rfl));intro w19 hw;have n0_:Aside0 (Kd.S (Kd.slice 3 (Kd.int .i64)) 31 w19 w.heap.size (fun _=>True) v113 (lsAt eFrom Za Zc.toNat k)):=⟨(by rw[hw];exact(by(with_reducible repeat(first|apply Kd.S_alloc|apply Kd.S_drewN|apply Kd.S_drew));exact Kd.S_mono (Kd.S_far (p:=⟨Wj,3,none⟩) (Kd.S_far (p:=⟨Wj,2,none⟩) (Kd.S_far (p:=⟨Wj,1,none⟩) (Kd.S_far (p:=⟨Wj,0,none⟩) (Kd.S_types HO_3.out We.out (by decide)) (fun _ hk=>hk.2) (.int .i64 (rd_T50 Za (k:Int)).f0)) (fun _ hk=>hk.2) (.int .i64 (rd_T50 Za (k:Int)).f1)) (fun _ hk=>hk.2) (.int .i64 (rd_T50 Za (k:Int)).f2)) (fun _ hk=>hk.2) (.int .i64 (rd_T50 Za (k:Int)).f3)) (fun _ hk=>trivial)))⟩;have n1_:Aside0 (w19.heap[Wb]? =some (.cells #[.int .i64 Zc, .bool Zb, .slice (some ad115) Za.length Zd] 24 (0,0))):=⟨(by rw[hw];exact(by(with_reducible repeat(first|refine Yl ?_ _|refine Ym ?_|refine Yj ?_ _));refine blk_far ?_ Vw.out _;(with_reducible repeat(first|refine Yl ?_ _|refine Ym ?_|refine Yj ?_ _));refine blk_far ?_ Vw.out _;(with_reducible repeat(first|refine Yl ?_ _|refine Ym ?_|refine Yj ?_ _));refine blk_far ?_ Vw.out _;(with_reducible repeat(first|refine Yl ?_ _|refine Ym ?_|refine Yj ?_ _));refine blk_far ?_ Vw.out _;(with_reducible repeat(first|refine Yl ?_ _|refine Ym ?_|refine Yj ?_ _));exact Zw.out))⟩;have n2_:Aside0 (w19.heap[Wj]? =some (.cells #[.int .i64 (rd_T50 Za (k:Int)).f0, .int .i64 (rd_T50 Za (k:Int)).f1, .int .i64 (rd_T50 Za (k:Int)).f2, .int .i64 (rd_T50 Za (k:Int)).f3] 50 (0,0))):=⟨(by rw[hw];exact(by(with_reducible repeat(first|refine Yl ?_ _|refine Ym ?_|refine Yj ?_ _));refine YA (cs:= #[.int .i64 (rd_T50 Za (k:Int)).f0, .int .i64 (rd_T50 Za (k:Int)).f1, .int .i64 (rd_T50 Za (k:Int)).f2, .int .i64 0]) ?_ 3 _ rfl;(with_reducible repeat(first|refine Yl ?_ _|refine Ym ?_|refine Yj ?_ _));refine YA (cs:= #[.int .i64 (rd_T50 Za (k:Int)).f0, .int .i64 (rd_T50 Za (k:Int)).f1, .int .i64 0, .int .i64 0]) ?_ 2 _ rfl;(with_reducible repeat(first|refine Yl ?_ _|refine Ym ?_|refine Yj ?_ _));refine YA (cs:= #[.int .i64 (rd_T50 Za (k:Int)).f0, .int .i64 0, .int .i64 0, .int .i64 0]) ?_ 1 _ rfl;(with_reducible repeat(first|refine Yl ?_ _|refine Ym ?_|refine Yj ?_ _));refine YA (cs:= #[.int .i64 0, .int .i64 0, .int .i64 0, .int .i64 0]) ?_ 0 _ rfl;(with_reducible repeat(first|refine Yl ?_ _|refine Ym ?_|refine Yj ?_ _));exact We.out))⟩;have n3_:Aside0 (Below w.heap.size w w19):=⟨(by rw[hw];exact(by repeat(first|(with_reducible first|exact HB.out|apply Ye|apply Yd|apply Yg|refine Yh ?_ Jc.out|refine Yh ?_ GE116.out)|exact HB.out)))⟩;clear hw;clear HO_3;clear Zw;clear We;clear HB;have HO_3:=n0_;have Zw:=n1_;have We:=n2_;have HB:=n3_;clear n0_ n1_ n2_ n3_;have hcz20_0:w19.cell? ⟨Wj,0,none⟩=some (.int .i64 (rd_T50 Za (k:Int)).f0):=(Yc We.out 0).trans rfl;have hcz20_1:w19.cell? ⟨Wj,1,none⟩=some (.int .i64 (rd_T50 Za (k:Int)).f1):=(Yc We.out 1).trans rfl;have hcz20_2:w19.cell? ⟨Wj,2,none⟩=some (.int .i64 (rd_T50 Za (k:Int)).f2):=(Yc We.out 2).trans rfl;have hcz20_3:w19.cell? ⟨Wj,3,none⟩=some (.int .i64 (rd_T50 Za (k:Int)).f3):=(Yc We.out 3).trans rfl;have hfz20_0:=Yf We.out 0;have hfz20_1:=Yf We.out 1;have hfz20_2:=Yf We.out 2;have hfz20_3:=Yf We.out 3)|(go_at_call 96;refine(adj_from.calls (rd_T50 Za (k:Int)).f0 (rd_T50 Za (k:Int)).f1 (rd_T50 Za (k:Int)).f2 (rd_T50 Za (k:Int)).f3 _ _ rfl).mono ?_;rintro e_ w20 ⟨rfl,hb⟩;rw[show (rd_T50 Za (k:Int)).f0=ex from hex.out];have n0_:=Ya (Kd.S_below (by(with_reducible repeat(first|apply Kd.S_alloc|apply Kd.S_drewN|apply Kd.S_drew));exact HO_3.out) hb);have n1_:=Ya (Yn (g:=Wb) (o:=(.cells #[.int .i64 Zc, .bool Zb, .slice (some ad115) Za.length Zd] 24 (0,0))) (by(with_reducible repeat(first|refine Yl ?_ _|refine Ym ?_|refine Yj ?_ _));exact Zw.out) hb);have n2_:=Ya (Yk (by repeat(first|(with_reducible first|exact HB.out|apply Ye|apply Yd|apply Yg|refine Yh ?_ Jc.out|refine Yh ?_ GE116.out)|exact HB.out)) hb);clear HO_3 Zw HB We hcz20_0 hcz20_1 hcz20_2 hcz20_3 hfz20_0 hfz20_1 hfz20_2 hfz20_3 hb;have HO_3:=n0_;have Zw:=n1_;have HB:=n2_;clear n0_ n1_ n2_;obtain⟨Ao21,co21,eo21⟩:=Kd.S_slice HO_3.out;subst eo21;have p117:0≤(ex:Int):=(Yu (by first|(with_reducible assumption)|assumption));have q117:ex<((lsAt eFrom Za Zc.toNat k).length:Int):=(Yu (by first|(with_reducible assumption)|assumption));obtain⟨ad117,A117_0,c117_0,e117,hx117_0,hl117_0,hi117_0⟩:=at_L5 (Kd.S_reads' HO_3.out).2.2 ex p117 q117;cases e117;obtain⟨ce117,hce117,hMe117,hcc117⟩:=Kd.S_get HO_3.out [] ex p117 (by first|exact q117|(have e_:=(Kd.S_reads' HO_3.out).1;omega));obtain⟨ve117_0,rfl,ge117_0⟩:=hMe117;have hv117_0:=hcc117 0 _ rfl;rw[Nat.add_zero,show ((Kd.slice 3 (Kd.int .i64))).sz=1 from rfl,Nat.mul_one] at hv117_0;replace hv117_0:=Option.some.inj (hv117_0.symm.trans hx117_0);rw[hv117_0] at ge117_0;have HL117_0:=Ya (show Kd.R (Kd.int .i64) 3 _ _ _ _ (rd_L5 (lsAt eFrom Za Zc.toNat k) ex) from ge117_0);clear hv117_0 ge117_0;have HX117_0:=Ya hx117_0;clear hcc117 hce117;have HR117_0:=Ya hi117_0;have HC117_0:=Ya hl117_0;clear hi117_0 hl117_0;replace p117:=eq_true p117;replace q117:=eq_true q117;obtain⟨go22,co22,eo22,gb22,gl22,cl22,HG22⟩:=Kd.S_form HO_3.out (by have h_:(ex:Int)<((lsAt eFrom Za Zc.toNat k).length:Int):=(Yu (by first|(with_reducible assumption)|assumption));have h2_:0≤(ex:Int):=(Yu (by first|(with_reducible assumption)|assumption));omega);(first|cases eo22|(injection eo22 with ea_ en_ ec_;(first|subst ea_|(injection ea_ with ea_;subst ea_));subst ec_;clear en_));have GB22:=Ya gb22;have GG22:=Ya HG22;clear gb22 gl22 HG22;(first|simp only[add_plain] at hx117_0|skip);obtain⟨oki22,ce22,hcl22,hM22,hcc22,_,_,hH22⟩:=Kd.S_elem HO_3.out [] (ex:Int) (Yu (by first|(with_reducible assumption)|assumption)) (by have h_:(ex:Int)<((lsAt eFrom Za Zc.toNat k).length:Int):=Yu (by first|(with_reducible assumption)|assumption);first|exact h_|(have e_:=(Kd.S_reads' HO_3.out).1;omega)|simpa using h_);obtain⟨ve22_0,rfl,ge22_0⟩:=hM22;have hv22:=hcc22 0 _ rfl;have hX22:=HX117_0.out;(try simp only[add_plain] at hX22);(try simp only[Nat.add_zero] at hv22);(try rw[show ((Kd.slice 3 (Kd.int .i64))).sz=1 from rfl,Nat.mul_one] at hv22);replace hv22:=Option.some.inj (hv22.symm.trans hX22);subst hv22;clear hX22 hcc22 hcl22;have UU22:=Ya (show Kd.R (Kd.int .i64) 3 _ w.heap.size oki22 (.slice A117_0 (rd_L5 (lsAt eFrom Za Zc.toNat k) ex).length c117_0) (rd_L5 (lsAt eFrom Za Zc.toNat k) ex) from ge22_0);have HH22:=Ya hH22;have HN22:=Ya (Kd.S_reads' HO_3.out).1;clear hH22 ge22_0)|((with_reducible refine gate_builtin (b:= .append) (xs:= #[.tmp 28, .tmp 30]) rfl ?_);at_builtin;refine Kd.R_append (Kd.int .i64) (w0:=w) w.heap.size rfl (.tmp 28) (.tmp 30) 31 3 (.int .i64 0) 8 rfl Try.underlying31 info3 rfl (by decide) (by omega) (.slice A117_0 (rd_L5 (lsAt eFrom Za Zc.toNat k) ex).length c117_0) (rd_L5 (lsAt eFrom Za Zc.toNat k) ex) (k:Int) [.int .i64 (k:Int)] (fun k_=>oki22 k_∨((fun _=>True)) k_∧w20.heap.size≤k_) (fun _=>False) rfl rfl ?aP (fun _ hk=>hk.elim) ?aF ?aO ?aB ?aS ?aL ?_;(case aP=>exact rfl);(case aB=>exact(by repeat(first|(with_reducible first|exact HB.out|apply Ye|apply Yd|apply Yg|refine Yh ?_ Jc.out)|exact HB.out)));(case aF=>exact(fun k_ hk=> .inr ⟨trivial,hk⟩));(case aO=>exact(by(with_reducible repeat(first|apply Yr|apply Yq|apply Yp));exact Kd.R_mono UU22.out (fun _ hk=> .inl hk)));(case aS=>exact(Yi (by repeat(first|(with_reducible first|exact HB.out|apply Ye|apply Yd|apply Yg|refine Yh ?_ Jc.out)|exact HB.out))));(case aL=>have:=LMc14.out;omega);intro v119 w23 ho hb hg hat;have n0_:=Ya (blk_grown (g:=Wb) (o:=(.cells #[.int .i64 Zc, .bool Zb, .slice (some ad115) Za.length Zd] 24 (0,0))) (by(with_reducible repeat(first|refine Yl ?_ _|refine Ym ?_|refine Yj ?_ _));exact Zw.out) hg (Kd.R_ne HL117_0.out Zw.out (by decide)));have n2_:=Ya (hb);have n3_:=Ya (Kd.H_grown (Kd.H_widen (by repeat(first|exact HH22.out|refine Kd.H_alloc ?_ _|refine Kd.H_drewN ?_ _|refine Kd.H_drew ?_))) hg (fun k_ e_=> .inl (UU22.out.1 k_ e_)));have n4_:=Ya (ho);clear Zw;clear HB;clear HH22;clear HO_3;clear UU22;clear HL117_0;have Zw:=n0_;have HB:=n2_;have HH22:=n3_;have HO120:=n4_;clear n0_ n2_ n3_ n4_;clear ho hb hg hat;have p15:0≤(ex:Int):=(Yu (by first|(with_reducible assumption)|assumption));have q15:(ex:Int)<((lsAt eFrom Za Zc.toNat k).length:Int):=(Yu (by first|(with_reducible assumption)|assumption));replace p15:=eq_true p15;replace q15:=eq_true q15;obtain⟨Ao26,co26,eo26⟩:=Kd.R_slice HO120.out;subst eo26;obtain⟨_,_,hraw24,_,_,hcc24,_⟩:=Kd.H_raw HH22.out (Yu (by first|(with_reducible assumption)|assumption)) (by have h_:(ex:Int)<((lsAt eFrom Za Zc.toNat k).length:Int):=Yu (by first|(with_reducible assumption)|assumption);first|exact h_|(have e_:=(HN22.out);omega)|simpa using h_);obtain⟨_,hfr24⟩:=Kd.H_at HH22.out (Yu (by first|(with_reducible assumption)|assumption)) (by have h_:(ex:Int)<((lsAt eFrom Za Zc.toNat k).length:Int):=Yu (by first|(with_reducible assumption)|assumption);first|exact h_|(have e_:=(HN22.out);omega)|simpa using h_);have hx24_0:=hcc24 0 _ rfl;have hf24_0:=hfr24 0;(try simp only[Nat.add_zero] at hx24_0 hf24_0);(try rw[show ((Kd.slice 3 (Kd.int .i64))).sz=1 from rfl,Nat.mul_one] at hx24_0);(try rw[show ((Kd.slice 3 (Kd.int .i64))).sz=1 from rfl,Nat.mul_one] at hf24_0);have HP24:=Kd.S_seg0 HH22.out (Yu (by first|(with_reducible assumption)|assumption)) (by have h_:(ex:Int)<((lsAt eFrom Za Zc.toNat k).length:Int):=Yu (by first|(with_reducible assumption)|assumption);first|exact h_|(have e_:=(HN22.out);omega)|simpa using h_) (seg:=[.slice Ao26 (rd_L5 (lsAt eFrom Za Zc.toNat k) ex ++ [(k:Int)]).length co26]) (j:=0) (show 1≤1 from by decide) (x':=rd_L5 (lsAt eFrom Za Zc.toNat k) ex ++ [(k:Int)]) (Kd.M_row HO120.out) (fun _ hk=>hk);(try simp only[show ((Kd.slice 3 (Kd.int .i64))).sz=1 from rfl,Nat.mul_one,Nat.add_zero] at HP24);clear hcc24 hfr24)|((with_reducible refine gate_store (t:=31) (p:=32) rfl ?_);refine store_event (t:=31) (p:=32) (v:= ?vo_w25) (w1:=(w23.setCell ⟨go22,(ex:Int).toNat,none⟩ (.slice Ao26 (rd_L5 (lsAt eFrom Za Zc.toNat k) ex ++ [(k:Int)]).length co26))) ?hg ?ho ?hn ?hr ?_;(case ho=>rfl);(case hg=>rfl);(case hn=>rfl);(case hr=>first|(go_simp;done)|(go_simp;rfl));intro w25 hw;have hg:w23.grownBy w25 (some go22):=(by rw[hw];exact HP24.2);have hp_:Kd.S (Kd.slice 3 (Kd.int .i64)) 31 w25 w.heap.size (fun _=>True) (.slice (some ⟨go22,0,none⟩) (lsAt eFrom Za Zc.toNat k).length co21) (lsAt eFrom Za Zc.toNat (k+1)):=(by rw[hw,LSN.out];exact HP24.1);clear HP24;have n0_:=Ya (blk_grown (g:=Wb) (o:=(.cells #[.int .i64 Zc, .bool Zb, .slice (some ad115) Za.length Zd] 24 (0,0))) (by(with_reducible repeat(first|refine Yl ?_ _|refine Ym ?_|refine Yj ?_ _));exact Zw.out) hg (Kd.R_ne hraw24 Zw.out (by decide)));have n2_:=Ya ((by rw[hw];exact Yh HB.out GB22.out:Below w.heap.size w w25));have n3_:=Ya (hp_);clear Zw;clear HB;clear HO120;clear HH22;have Zw:=n0_;have HB:=n2_;have HO_3:=n3_;clear n0_ n2_ n3_;clear hg hw hp_ hraw24));go_roundw
   case rel=>exact⟨k+1,by omega,by first|rfl|go_num,⟨by(with_reducible repeat(first|apply Kd.S_alloc|apply Kd.S_drewN|apply Kd.S_drew));exact HO_3.out⟩,⟨by(with_reducible repeat(first|refine Yl ?_ _|refine Ym ?_|refine Yj ?_ _));exact Zw.out⟩,⟨(by repeat(first|(with_reducible first|exact HB.out|apply Ye|apply Yd|apply Yg|refine Yh ?_ Jc.out)|exact HB.out))⟩⟩
   case measure=>simp[intOf]<;>omega
  ·have ek:k=Za.length:=by omega
   subst ek;have c9b0:decide ((Za.length:Int)<(Za.length:Int))=false:=Yw (by omega);go_wp2;go_ret;exact⟨_,rfl,by(with_reducible repeat(first|apply Kd.S_alloc|apply Kd.S_drewN|apply Kd.S_drew));exact HO_3.out,(by repeat(first|(with_reducible first|exact HB.out|apply Ye|apply Yd|apply Yg|refine Yh ?_ Jc.out)|exact HB.out))⟩
set_option maxHeartbeats 4000000 in
set_option maxRecDepth 100000 in
theorem listsTo_calls (Zc:Int) (Zb:Bool) (Ze:Option Addr) (Zd:Nat) (Za:List S50) (w:World) (Zp:Kd.C k50 w Ze Za.length Za) (Zq:Za.length≤Zd) (h0:0≤Zc) (h1:Zc≤1000000) (hl:Za.length≤1000000) (hE: ∀ k:Nat,k<Za.length→0≤eTo (rd_T50 Za k)∧eTo (rd_T50 Za k)<Zc):
  Calls Try.prog 95 #[.agg #[.int .i64 Zc, .bool Zb, .slice Ze Za.length Zd], .func (.func 97) #[] #[]] w fun e w'=> ∃ v0_:Value,e= .returned v0_∧Kd.S (Kd.slice 3 (Kd.int .i64)) 31 w' w.heap.size (fun _=>True) v0_ (lsAt eTo Za Zc.toNat Za.length)∧Below w.heap.size w w':=by
 have hu24:=Try.underlying24;have hu74:=Try.underlying50;have Zj:=Ya Zp;have Zs:=Ya Zq;have HE:=Ya hE;clear Zp Zq hE;have HB:=Ya (Yo w.heap.size w);have c2b1:decide (0≤Zc)=true:=Yv h0;have c3b1:decide ((Zc:Int).toNat≤11728124029610)=true:=Yv (by omega);have c2b0:=eq_true h0;have c3b0:((Zc:Int).toNat≤11728124029610)=True:=eq_true (by omega);have HH0:=Ya h0;have HH1:=Ya h1;clear h0 h1;go_enter Try.func95,Try.ntmps95;go_wp2_with (first|((with_reducible refine gate_dst (N:=2) rfl ?_);refine Yz ?hg (N:=2) ?hd (cs:= #[.int .i64 Zc, .bool Zb, .slice Ze Za.length Zd]) (t:=24) ?hr ?_;(case hd=>rfl);(case hg=>rfl);(case hr=>first|(go_simp;done)|(go_simp;rfl));intro Wb hg w4 Zf hb;have n0_:=Ya (Yk (by repeat(first|(with_reducible first|exact HB.out|apply Ye|apply Yd|apply Yg)|exact HB.out)) hb);have n1_:=Ya (Zf);have n3_:=Ya ((by rw[hg];exact(Yi (by repeat(first|(with_reducible first|exact HB.out|apply Ye|apply Yd|apply Yg)|exact HB.out))):w.heap.size≤Wb));clear HB;have HB:=n0_;have Zw:=n1_;have Jc:=n3_;clear n0_ n1_ n3_;clear hb Zf hg;have hcz5_0:w4.cell? ⟨Wb,0,none⟩=some (.int .i64 Zc):=(Yc Zw.out 0).trans rfl;have hcz5_1:w4.cell? ⟨Wb,1,none⟩=some (.bool Zb):=(Yc Zw.out 1).trans rfl;have hcz5_2:w4.cell? ⟨Wb,2,none⟩=some (.slice Ze Za.length Zd):=(Yc Zw.out 2).trans rfl;have hfz5_0:=Yf Zw.out 0;have hfz5_1:=Yf Zw.out 1;have hfz5_2:=Yf Zw.out 2)|((with_reducible refine gate_dst (N:=11) rfl ?_);refine Kd.S_make (Kd.slice 3 (Kd.int .i64)) _ 31 rfl (N:=11) rfl 124 _ _ rfl Zc rfl rfl Try.underlying124 (.slice none 0 0) 24 infoRow rfl (by decide) (by omega) [] (ok:=fun _=>True) (okp:=fun _=>True) ⟨_,rfl,Kd.R_nil _ _ _ _ _⟩ (fun _ hk=>hk) trivial (Yu (by first|(with_reducible assumption)|assumption)) (Nat.le_trans (Nat.mul_le_mul_right _ (Yu (by first|(with_reducible assumption)|assumption):Zc.toNat≤11728124029610)) (by omega)) (Yo _ _) (Nat.le_refl _) ?_;intro v113 w6 ho7 hb hg_ hnew_;clear hg_ hnew_;have n0_:=Ya (Kd.S_lower ho7 (Yi (by repeat(first|(with_reducible first|exact HB.out|apply Ye|apply Yd|apply Yg|refine Yh ?_ Jc.out)|exact HB.out))));have n1_:=Ya (Yn (g:=Wb) (o:= .cells #[.int .i64 Zc, .bool Zb, .slice Ze Za.length Zd] 24 (0,0)) (by(with_reducible repeat(first|refine Yl ?_ _|refine Ym ?_|refine Yj ?_ _));exact Zw.out) hb);have n2_:=Ya (Yk (by repeat(first|(with_reducible first|exact HB.out|apply Ye|apply Yd|apply Yg|refine Yh ?_ Jc.out)|exact HB.out)) hb);clear Zw;clear HB;have HO114:=n0_;have Zw:=n1_;have HB:=n2_;clear n0_ n1_ n2_;clear hb ho7;have Uj:w6.cell? ⟨Wb,0,none⟩=some (.int .i64 Zc):=(Yc Zw.out 0).trans rfl;have Uk:w6.cell? ⟨Wb,1,none⟩=some (.bool Zb):=(Yc Zw.out 1).trans rfl;have Ja:w6.cell? ⟨Wb,2,none⟩=some (.slice Ze Za.length Zd):=(Yc Zw.out 2).trans rfl;have Ul:=Yf Zw.out 0;have Um:=Yf Zw.out 1;have Jb:=Yf Zw.out 2));go_loopw [15] (fun v15 w'=> ∃ k:Nat,k≤Za.length∧v15= .int .i64 k∧Aside0 (Kd.S (Kd.slice 3 (Kd.int .i64)) 31 w' w.heap.size (fun _=>True) v113 (lsAt eTo Za Zc.toNat k))∧Aside0 (w'.heap[Wb]? =some (.cells #[.int .i64 Zc, .bool Zb,(.slice Ze Za.length Zd)] 24 (0,0)))∧Aside0 (Below w.heap.size w w')) (fun v15 _=>Za.length - (intOf v15).toNat)
 case atStart=>exact⟨0,Nat.zero_le _,rfl,⟨by(with_reducible repeat(first|apply Kd.S_alloc|apply Kd.S_drewN|apply Kd.S_drew));exact HO114.out⟩,⟨by(with_reducible repeat(first|refine Yl ?_ _|refine Ym ?_|refine Yj ?_ _));exact Zw.out⟩,⟨(by repeat(first|(with_reducible first|exact HB.out|apply Ye|apply Yd|apply Yg|refine Yh ?_ Jc.out)|exact HB.out))⟩⟩
 case round=>
  try clear c2b0
  try clear c2b1
  try clear c3b0
  try clear c3b1
  try clear hcz5_0 hcz5_1 hcz5_2 Uj Uk Ja hfz5_0 hfz5_1 hfz5_2 Ul Um Jb
  clear HO114 Zw HB;obtain⟨k,hk,rfl,HO_3,Zw,HB⟩:=hrel;by_cases hlt:k<Za.length
  ·have hEk:=HE.out k hlt
   obtain⟨ex,hex0⟩: ∃ ex,eTo (rd_T50 Za (k:Int))=ex:=⟨_,rfl⟩;have hex:=Ya hex0;have LSN:Aside0 (lsAt eTo Za Zc.toNat (k+1)=(lsAt eTo Za Zc.toNat k).set (ex:Int).toNat (rd_L5 (lsAt eTo Za Zc.toNat k) ex ++ [(k:Int)])):=⟨by rw[← hex0];rfl⟩;rw[hex0] at hEk;clear hex0;have hlen:=lsAt_len eTo Za Zc.toNat k;have c12b0:decide (0≤ex)=true:=Yv hEk.1;have c13b0:decide (ex<((lsAt eTo Za Zc.toNat k).length:Int))=true:=Yv (by rw[hlen];have:=HH0.out;omega);have LMc14:Aside0 ((rd_L5 (lsAt eTo Za Zc.toNat k) ex).length<17592186044416):=⟨by have:=lsAt_row eTo Za Zc.toNat k ex;omega⟩;clear hEk hlen;have p115:0≤((k:Nat):Int):=by omega
   have q115:((k:Nat):Int)<(Za.length:Int):=by omega
   obtain⟨ad115,e115,hx115_0,hx115_1,hx115_2,hx115_3⟩:=at_T50 Zj.out (k:Int) p115 q115;simp only[Int.toNat_natCast] at hx115_0 hx115_1 hx115_2 hx115_3;cases e115;replace hx115_0:=(HB.out.cell (Yb w _ hx115_0)).trans hx115_0;replace hx115_1:=(HB.out.cell (Yb w _ hx115_1)).trans hx115_1;replace hx115_2:=(HB.out.cell (Yb w _ hx115_2)).trans hx115_2;replace hx115_3:=(HB.out.cell (Yb w _ hx115_3)).trans hx115_3;have c9b0:decide ((k:Int)<(Za.length:Int))=true:=Yv q115;go_wp2_with (first|((with_reducible refine gate_dst (N:=7) rfl ?_);refine Yz ?hg (N:=7) ?hd (cs:= #[.int .i64 0, .int .i64 0, .int .i64 0, .int .i64 0]) (t:=50) ?hr ?_;(case hd=>rfl);(case hg=>rfl);(case hr=>first|(go_simp;done)|(go_simp;rfl));intro Wj hg w16 Zf hb;have n0_:=Ya (Kd.S_below (by(with_reducible repeat(first|apply Kd.S_alloc|apply Kd.S_drewN|apply Kd.S_drew));exact HO_3.out) hb);have n1_:=Ya (Yn (g:=Wb) (o:=(.cells #[.int .i64 Zc, .bool Zb, .slice (some ad115) Za.length Zd] 24 (0,0))) (by(with_reducible repeat(first|refine Yl ?_ _|refine Ym ?_|refine Yj ?_ _));exact Zw.out) hb);have n2_:=Ya (Yk (by repeat(first|(with_reducible first|exact HB.out|apply Ye|apply Yd|apply Yg|refine Yh ?_ Jc.out)|exact HB.out)) hb);have n3_:=Ya (Zf);have n5_:=Ya ((by rw[hg];exact(Yi (by repeat(first|(with_reducible first|exact HB.out|apply Ye|apply Yd|apply Yg|refine Yh ?_ Jc.out)|exact HB.out))):w.heap.size≤Wj));have n6_:=Ya ((by rw[hg];exact Nat.ne_of_lt (blk_lt (g:=Wb) (o:=(.cells #[.int .i64 Zc, .bool Zb, .slice (some ad115) Za.length Zd] 24 (0,0))) (by(with_reducible repeat(first|refine Yl ?_ _|refine Ym ?_|refine Yj ?_ _));exact Zw.out)):Wb≠Wj));have n7_:=Ya ((by rw[hg];exact Nat.ne_of_gt (blk_lt (g:=Wb) (o:=(.cells #[.int .i64 Zc, .bool Zb, .slice (some ad115) Za.length Zd] 24 (0,0))) (by(with_reducible repeat(first|refine Yl ?_ _|refine Ym ?_|refine Yj ?_ _));exact Zw.out)):Wj≠Wb));clear HO_3;clear Zw;clear HB;have HO_3:=n0_;have Zw:=n1_;have HB:=n2_;have We:=n3_;have GE116:=n5_;have Vw:=n6_;have NB116_111:=n7_;clear n0_ n1_ n2_ n3_ n5_ n6_ n7_;clear hb Zf hg;have hnb17:=NB116_111.out;have hnc17:=Vw.out;have hcz18_0:w16.cell? ⟨Wj,0,none⟩=some (.int .i64 0):=(Yc We.out 0).trans rfl;have hcz18_1:w16.cell? ⟨Wj,1,none⟩=some (.int .i64 0):=(Yc We.out 1).trans rfl;have hcz18_2:w16.cell? ⟨Wj,2,none⟩=some (.int .i64 0):=(Yc We.out 2).trans rfl;have hcz18_3:w16.cell? ⟨Wj,3,none⟩=some (.int .i64 0):=(Yc We.out 3).trans rfl;have hfz18_0:=Yf We.out 0;have hfz18_1:=Yf We.out 1;have hfz18_2:=Yf We.out 2;have hfz18_3:=Yf We.out 3)|((with_reducible refine gate_store (t:=50) (p:=7) rfl ?_);refine store_event (t:=50) (p:=7) (v:= ?vo_w19) (w1:=((((w16.setCell ⟨Wj,0,none⟩ (.int .i64 (rd_T50 Za (k:Int)).f0)).setCell ⟨Wj,1,none⟩ (.int .i64 (rd_T50 Za (k:Int)).f1)).setCell ⟨Wj,2,none⟩ (.int .i64 (rd_T50 Za (k:Int)).f2)).setCell ⟨Wj,3,none⟩ (.int .i64 (rd_T50 Za (k:Int)).f3))) ?hg ?ho ?hn ?hr ?_;(case ho=>rfl);(case hg=>rfl);(case hn=>rfl);(case hr=>first|(go_simp;done)|(go_simp;rfl));intro w19 hw;have n0_:Aside0 (Kd.S (Kd.slice 3 (Kd.int .i64)) 31 w19 w.heap.size (fun _=>True) v113 (lsAt eTo Za Zc.toNat k)):=⟨(by rw[hw];exact(by(with_reducible repeat(first|apply Kd.S_alloc|apply Kd.S_drewN|apply Kd.S_drew));exact Kd.S_mono (Kd.S_far (p:=⟨Wj,3,none⟩) (Kd.S_far (p:=⟨Wj,2,none⟩) (Kd.S_far (p:=⟨Wj,1,none⟩) (Kd.S_far (p:=⟨Wj,0,none⟩) (Kd.S_types HO_3.out We.out (by decide)) (fun _ hk=>hk.2) (.int .i64 (rd_T50 Za (k:Int)).f0)) (fun _ hk=>hk.2) (.int .i64 (rd_T50 Za (k:Int)).f1)) (fun _ hk=>hk.2) (.int .i64 (rd_T50 Za (k:Int)).f2)) (fun _ hk=>hk.2) (.int .i64 (rd_T50 Za (k:Int)).f3)) (fun _ hk=>trivial)))⟩;have n1_:Aside0 (w19.heap[Wb]? =some (.cells #[.int .i64 Zc, .bool Zb, .slice (some ad115) Za.length Zd] 24 (0,0))):=⟨(by rw[hw];exact(by(with_reducible repeat(first|refine Yl ?_ _|refine Ym ?_|refine Yj ?_ _));refine blk_far ?_ Vw.out _;(with_reducible repeat(first|refine Yl ?_ _|refine Ym ?_|refine Yj ?_ _));refine blk_far ?_ Vw.out _;(with_reducible repeat(first|refine Yl ?_ _|refine Ym ?_|refine Yj ?_ _));refine blk_far ?_ Vw.out _;(with_reducible repeat(first|refine Yl ?_ _|refine Ym ?_|refine Yj ?_ _));refine blk_far ?_ Vw.out _;(with_reducible repeat(first|refine Yl ?_ _|refine Ym ?_|refine Yj ?_ _));exact Zw.out))⟩;have n2_:Aside0 (w19.heap[Wj]? =some (.cells #[.int .i64 (rd_T50 Za (k:Int)).f0, .int .i64 (rd_T50 Za (k:Int)).f1, .int .i64 (rd_T50 Za (k:Int)).f2, .int .i64 (rd_T50 Za (k:Int)).f3] 50 (0,0))):=⟨(by rw[hw];exact(by(with_reducible repeat(first|refine Yl ?_ _|refine Ym ?_|refine Yj ?_ _));refine YA (cs:= #[.int .i64 (rd_T50 Za (k:Int)).f0, .int .i64 (rd_T50 Za (k:Int)).f1, .int .i64 (rd_T50 Za (k:Int)).f2, .int .i64 0]) ?_ 3 _ rfl;(with_reducible repeat(first|refine Yl ?_ _|refine Ym ?_|refine Yj ?_ _));refine YA (cs:= #[.int .i64 (rd_T50 Za (k:Int)).f0, .int .i64 (rd_T50 Za (k:Int)).f1, .int .i64 0, .int .i64 0]) ?_ 2 _ rfl;(with_reducible repeat(first|refine Yl ?_ _|refine Ym ?_|refine Yj ?_ _));refine YA (cs:= #[.int .i64 (rd_T50 Za (k:Int)).f0, .int .i64 0, .int .i64 0, .int .i64 0]) ?_ 1 _ rfl;(with_reducible repeat(first|refine Yl ?_ _|refine Ym ?_|refine Yj ?_ _));refine YA (cs:= #[.int .i64 0, .int .i64 0, .int .i64 0, .int .i64 0]) ?_ 0 _ rfl;(with_reducible repeat(first|refine Yl ?_ _|refine Ym ?_|refine Yj ?_ _));exact We.out))⟩;have n3_:Aside0 (Below w.heap.size w w19):=⟨(by rw[hw];exact(by repeat(first|(with_reducible first|exact HB.out|apply Ye|apply Yd|apply Yg|refine Yh ?_ Jc.out|refine Yh ?_ GE116.out)|exact HB.out)))⟩;clear hw;clear HO_3;clear Zw;clear We;clear HB;have HO_3:=n0_;have Zw:=n1_;have We:=n2_;have HB:=n3_;clear n0_ n1_ n2_ n3_;have hcz20_0:w19.cell? ⟨Wj,0,none⟩=some (.int .i64 (rd_T50 Za (k:Int)).f0):=(Yc We.out 0).trans rfl;have hcz20_1:w19.cell? ⟨Wj,1,none⟩=some (.int .i64 (rd_T50 Za (k:Int)).f1):=(Yc We.out 1).trans rfl;have hcz20_2:w19.cell? ⟨Wj,2,none⟩=some (.int .i64 (rd_T50 Za (k:Int)).f2):=(Yc We.out 2).trans rfl;have hcz20_3:w19.cell? ⟨Wj,3,none⟩=some (.int .i64 (rd_T50 Za (k:Int)).f3):=(Yc We.out 3).trans rfl;have hfz20_0:=Yf We.out 0;have hfz20_1:=Yf We.out 1;have hfz20_2:=Yf We.out 2;have hfz20_3:=Yf We.out 3)|(go_at_call 97;refine(adj_to.calls (rd_T50 Za (k:Int)).f0 (rd_T50 Za (k:Int)).f1 (rd_T50 Za (k:Int)).f2 (rd_T50 Za (k:Int)).f3 _ _ rfl).mono ?_;rintro e_ w20 ⟨rfl,hb⟩;rw[show (rd_T50 Za (k:Int)).f1=ex from hex.out];have n0_:=Ya (Kd.S_below (by(with_reducible repeat(first|apply Kd.S_alloc|apply Kd.S_drewN|apply Kd.S_drew));exact HO_3.out) hb);have n1_:=Ya (Yn (g:=Wb) (o:=(.cells #[.int .i64 Zc, .bool Zb, .slice (some ad115) Za.length Zd] 24 (0,0))) (by(with_reducible repeat(first|refine Yl ?_ _|refine Ym ?_|refine Yj ?_ _));exact Zw.out) hb);have n2_:=Ya (Yk (by repeat(first|(with_reducible first|exact HB.out|apply Ye|apply Yd|apply Yg|refine Yh ?_ Jc.out|refine Yh ?_ GE116.out)|exact HB.out)) hb);clear HO_3 Zw HB We hcz20_0 hcz20_1 hcz20_2 hcz20_3 hfz20_0 hfz20_1 hfz20_2 hfz20_3 hb;have HO_3:=n0_;have Zw:=n1_;have HB:=n2_;clear n0_ n1_ n2_;obtain⟨Ao21,co21,eo21⟩:=Kd.S_slice HO_3.out;subst eo21;have p117:0≤(ex:Int):=(Yu (by first|(with_reducible assumption)|assumption));have q117:ex<((lsAt eTo Za Zc.toNat k).length:Int):=(Yu (by first|(with_reducible assumption)|assumption));obtain⟨ad117,A117_0,c117_0,e117,hx117_0,hl117_0,hi117_0⟩:=at_L5 (Kd.S_reads' HO_3.out).2.2 ex p117 q117;cases e117;obtain⟨ce117,hce117,hMe117,hcc117⟩:=Kd.S_get HO_3.out [] ex p117 (by first|exact q117|(have e_:=(Kd.S_reads' HO_3.out).1;omega));obtain⟨ve117_0,rfl,ge117_0⟩:=hMe117;have hv117_0:=hcc117 0 _ rfl;rw[Nat.add_zero,show ((Kd.slice 3 (Kd.int .i64))).sz=1 from rfl,Nat.mul_one] at hv117_0;replace hv117_0:=Option.some.inj (hv117_0.symm.trans hx117_0);rw[hv117_0] at ge117_0;have HL117_0:=Ya (show Kd.R (Kd.int .i64) 3 _ _ _ _ (rd_L5 (lsAt eTo Za Zc.toNat k) ex) from ge117_0);clear hv117_0 ge117_0;have HX117_0:=Ya hx117_0;clear hcc117 hce117;have HR117_0:=Ya hi117_0;have HC117_0:=Ya hl117_0;clear hi117_0 hl117_0;replace p117:=eq_true p117;replace q117:=eq_true q117;obtain⟨go22,co22,eo22,gb22,gl22,cl22,HG22⟩:=Kd.S_form HO_3.out (by have h_:(ex:Int)<((lsAt eTo Za Zc.toNat k).length:Int):=(Yu (by first|(with_reducible assumption)|assumption));have h2_:0≤(ex:Int):=(Yu (by first|(with_reducible assumption)|assumption));omega);(first|cases eo22|(injection eo22 with ea_ en_ ec_;(first|subst ea_|(injection ea_ with ea_;subst ea_));subst ec_;clear en_));have GB22:=Ya gb22;have GG22:=Ya HG22;clear gb22 gl22 HG22;(first|simp only[add_plain] at hx117_0|skip);obtain⟨oki22,ce22,hcl22,hM22,hcc22,_,_,hH22⟩:=Kd.S_elem HO_3.out [] (ex:Int) (Yu (by first|(with_reducible assumption)|assumption)) (by have h_:(ex:Int)<((lsAt eTo Za Zc.toNat k).length:Int):=Yu (by first|(with_reducible assumption)|assumption);first|exact h_|(have e_:=(Kd.S_reads' HO_3.out).1;omega)|simpa using h_);obtain⟨ve22_0,rfl,ge22_0⟩:=hM22;have hv22:=hcc22 0 _ rfl;have hX22:=HX117_0.out;(try simp only[add_plain] at hX22);(try simp only[Nat.add_zero] at hv22);(try rw[show ((Kd.slice 3 (Kd.int .i64))).sz=1 from rfl,Nat.mul_one] at hv22);replace hv22:=Option.some.inj (hv22.symm.trans hX22);subst hv22;clear hX22 hcc22 hcl22;have UU22:=Ya (show Kd.R (Kd.int .i64) 3 _ w.heap.size oki22 (.slice A117_0 (rd_L5 (lsAt eTo Za Zc.toNat k) ex).length c117_0) (rd_L5 (lsAt eTo Za Zc.toNat k) ex) from ge22_0);have HH22:=Ya hH22;have HN22:=Ya (Kd.S_reads' HO_3.out).1;clear hH22 ge22_0)|((with_reducible refine gate_builtin (b:= .append) (xs:= #[.tmp 28, .tmp 30]) rfl ?_);at_builtin;refine Kd.R_append (Kd.int .i64) (w0:=w) w.heap.size rfl (.tmp 28) (.tmp 30) 31 3 (.int .i64 0) 8 rfl Try.underlying31 info3 rfl (by decide) (by omega) (.slice A117_0 (rd_L5 (lsAt eTo Za Zc.toNat k) ex).length c117_0) (rd_L5 (lsAt eTo Za Zc.toNat k) ex) (k:Int) [.int .i64 (k:Int)] (fun k_=>oki22 k_∨((fun _=>True)) k_∧w20.heap.size≤k_) (fun _=>False) rfl rfl ?aP (fun _ hk=>hk.elim) ?aF ?aO ?aB ?aS ?aL ?_;(case aP=>exact rfl);(case aB=>exact(by repeat(first|(with_reducible first|exact HB.out|apply Ye|apply Yd|apply Yg|refine Yh ?_ Jc.out)|exact HB.out)));(case aF=>exact(fun k_ hk=> .inr ⟨trivial,hk⟩));(case aO=>exact(by(with_reducible repeat(first|apply Yr|apply Yq|apply Yp));exact Kd.R_mono UU22.out (fun _ hk=> .inl hk)));(case aS=>exact(Yi (by repeat(first|(with_reducible first|exact HB.out|apply Ye|apply Yd|apply Yg|refine Yh ?_ Jc.out)|exact HB.out))));(case aL=>have:=LMc14.out;omega);intro v119 w23 ho hb hg hat;have n0_:=Ya (blk_grown (g:=Wb) (o:=(.cells #[.int .i64 Zc, .bool Zb, .slice (some ad115) Za.length Zd] 24 (0,0))) (by(with_reducible repeat(first|refine Yl ?_ _|refine Ym ?_|refine Yj ?_ _));exact Zw.out) hg (Kd.R_ne HL117_0.out Zw.out (by decide)));have n2_:=Ya (hb);have n3_:=Ya (Kd.H_grown (Kd.H_widen (by repeat(first|exact HH22.out|refine Kd.H_alloc ?_ _|refine Kd.H_drewN ?_ _|refine Kd.H_drew ?_))) hg (fun k_ e_=> .inl (UU22.out.1 k_ e_)));have n4_:=Ya (ho);clear Zw;clear HB;clear HH22;clear HO_3;clear UU22;clear HL117_0;have Zw:=n0_;have HB:=n2_;have HH22:=n3_;have HO120:=n4_;clear n0_ n2_ n3_ n4_;clear ho hb hg hat;have p15:0≤(ex:Int):=(Yu (by first|(with_reducible assumption)|assumption));have q15:(ex:Int)<((lsAt eTo Za Zc.toNat k).length:Int):=(Yu (by first|(with_reducible assumption)|assumption));replace p15:=eq_true p15;replace q15:=eq_true q15;obtain⟨Ao26,co26,eo26⟩:=Kd.R_slice HO120.out;subst eo26;obtain⟨_,_,hraw24,_,_,hcc24,_⟩:=Kd.H_raw HH22.out (Yu (by first|(with_reducible assumption)|assumption)) (by have h_:(ex:Int)<((lsAt eTo Za Zc.toNat k).length:Int):=Yu (by first|(with_reducible assumption)|assumption);first|exact h_|(have e_:=(HN22.out);omega)|simpa using h_);obtain⟨_,hfr24⟩:=Kd.H_at HH22.out (Yu (by first|(with_reducible assumption)|assumption)) (by have h_:(ex:Int)<((lsAt eTo Za Zc.toNat k).length:Int):=Yu (by first|(with_reducible assumption)|assumption);first|exact h_|(have e_:=(HN22.out);omega)|simpa using h_);have hx24_0:=hcc24 0 _ rfl;have hf24_0:=hfr24 0;(try simp only[Nat.add_zero] at hx24_0 hf24_0);(try rw[show ((Kd.slice 3 (Kd.int .i64))).sz=1 from rfl,Nat.mul_one] at hx24_0);(try rw[show ((Kd.slice 3 (Kd.int .i64))).sz=1 from rfl,Nat.mul_one] at hf24_0);have HP24:=Kd.S_seg0 HH22.out (Yu (by first|(with_reducible assumption)|assumption)) (by have h_:(ex:Int)<((lsAt eTo Za Zc.toNat k).length:Int):=Yu (by first|(with_reducible assumption)|assumption);first|exact h_|(have e_:=(HN22.out);omega)|simpa using h_) (seg:=[.slice Ao26 (rd_L5 (lsAt eTo Za Zc.toNat k) ex ++ [(k:Int)]).length co26]) (j:=0) (show 1≤1 from by decide) (x':=rd_L5 (lsAt eTo Za Zc.toNat k) ex ++ [(k:Int)]) (Kd.M_row HO120.out) (fun _ hk=>hk);(try simp only[show ((Kd.slice 3 (Kd.int .i64))).sz=1 from rfl,Nat.mul_one,Nat.add_zero] at HP24);clear hcc24 hfr24)|((with_reducible refine gate_store (t:=31) (p:=32) rfl ?_);refine store_event (t:=31) (p:=32) (v:= ?vo_w25) (w1:=(w23.setCell ⟨go22,(ex:Int).toNat,none⟩ (.slice Ao26 (rd_L5 (lsAt eTo Za Zc.toNat k) ex ++ [(k:Int)]).length co26))) ?hg ?ho ?hn ?hr ?_;(case ho=>rfl);(case hg=>rfl);(case hn=>rfl);(case hr=>first|(go_simp;done)|(go_simp;rfl));intro w25 hw;have hg:w23.grownBy w25 (some go22):=(by rw[hw];exact HP24.2);have hp_:Kd.S (Kd.slice 3 (Kd.int .i64)) 31 w25 w.heap.size (fun _=>True) (.slice (some ⟨go22,0,none⟩) (lsAt eTo Za Zc.toNat k).length co21) (lsAt eTo Za Zc.toNat (k+1)):=(by rw[hw,LSN.out];exact HP24.1);clear HP24;have n0_:=Ya (blk_grown (g:=Wb) (o:=(.cells #[.int .i64 Zc, .bool Zb, .slice (some ad115) Za.length Zd] 24 (0,0))) (by(with_reducible repeat(first|refine Yl ?_ _|refine Ym ?_|refine Yj ?_ _));exact Zw.out) hg (Kd.R_ne hraw24 Zw.out (by decide)));have n2_:=Ya ((by rw[hw];exact Yh HB.out GB22.out:Below w.heap.size w w25));have n3_:=Ya (hp_);clear Zw;clear HB;clear HO120;clear HH22;have Zw:=n0_;have HB:=n2_;have HO_3:=n3_;clear n0_ n2_ n3_;clear hg hw hp_ hraw24));go_roundw
   case rel=>exact⟨k+1,by omega,by first|rfl|go_num,⟨by(with_reducible repeat(first|apply Kd.S_alloc|apply Kd.S_drewN|apply Kd.S_drew));exact HO_3.out⟩,⟨by(with_reducible repeat(first|refine Yl ?_ _|refine Ym ?_|refine Yj ?_ _));exact Zw.out⟩,⟨(by repeat(first|(with_reducible first|exact HB.out|apply Ye|apply Yd|apply Yg|refine Yh ?_ Jc.out)|exact HB.out))⟩⟩
   case measure=>simp[intOf]<;>omega
  ·have ek:k=Za.length:=by omega
   subst ek;have c9b0:decide ((Za.length:Int)<(Za.length:Int))=false:=Yw (by omega);go_wp2;go_ret;exact⟨_,rfl,by(with_reducible repeat(first|apply Kd.S_alloc|apply Kd.S_drewN|apply Kd.S_drew));exact HO_3.out,(by repeat(first|(with_reducible first|exact HB.out|apply Ye|apply Yd|apply Yg|refine Yh ?_ Jc.out)|exact HB.out))⟩
set_option maxHeartbeats 1000000 in
set_option maxRecDepth 100000 in
theorem leaving_calls (Zc:Int) (Zb:Bool) (Ze:Option Addr) (Zd:Nat) (Za:List S50) (w:World) (Zp:Kd.C k50 w Ze Za.length Za) (Zq:Za.length≤Zd) (h0:0≤Zc) (h1:Zc≤1000000) (hl:Za.length≤1000000) (hE: ∀ k:Nat,k<Za.length→0≤eFrom (rd_T50 Za k)∧eFrom (rd_T50 Za k)<Zc):
  Calls Try.prog 83 #[.agg #[.int .i64 Zc, .bool Zb, .slice Ze Za.length Zd]] w fun e w'=> ∃ v0_:Value,e= .returned v0_∧Kd.S (Kd.slice 3 (Kd.int .i64)) 31 w' w.heap.size (fun _=>True) v0_ (lsAt eFrom Za Zc.toNat Za.length)∧Below w.heap.size w w':=by
 have hu24:=Try.underlying24;have Zj:=Ya Zp;have Zs:=Ya Zq;have HE:=Ya hE;clear Zp Zq hE;have HB:=Ya (Yo w.heap.size w);go_enter Try.func83,Try.ntmps83;go_wp2_with (first|((with_reducible refine gate_dst (N:=1) rfl ?_);refine Yz ?hg (N:=1) ?hd (cs:= #[.int .i64 Zc, .bool Zb, .slice Ze Za.length Zd]) (t:=24) ?hr ?_;(case hd=>rfl);(case hg=>rfl);(case hr=>first|(go_simp;done)|(go_simp;rfl));intro Wb hg w4 Zf hb;have n0_:=Ya (Yk (by repeat(first|(with_reducible first|exact HB.out|apply Ye|apply Yd|apply Yg)|exact HB.out)) hb);have n1_:=Ya (Zf);have n2_:=Ya (Yt Zj.out hb);clear HB Zj;have HB:=n0_;have Zw:=n1_;have Zj:=n2_;clear n0_ n1_ n2_;clear hb Zf hg;have hcz5_0:w4.cell? ⟨Wb,0,none⟩=some (.int .i64 Zc):=(Yc Zw.out 0).trans rfl;have hcz5_1:w4.cell? ⟨Wb,1,none⟩=some (.bool Zb):=(Yc Zw.out 1).trans rfl;have hcz5_2:w4.cell? ⟨Wb,2,none⟩=some (.slice Ze Za.length Zd):=(Yc Zw.out 2).trans rfl)|fail);refine(listsFrom_calls Zc Zb Ze Zd Za _ Zj.out Zs.out h0 h1 hl HE.out).mono ?_;rintro e w5 ⟨v0,rfl,hS,hb⟩;have HS:=Ya (Kd.S_lower hS HB.out.size);have HB5:=Ya (Yk HB.out hb);clear hS hb hcz5_0 hcz5_1 hcz5_2 Zw;go_wp2;go_ret;exact⟨_,rfl,HS.out,HB5.out⟩
set_option maxHeartbeats 1000000 in
set_option maxRecDepth 100000 in
theorem coming_calls (Zc:Int) (Zb:Bool) (Ze:Option Addr) (Zd:Nat) (Za:List S50) (w:World) (Zp:Kd.C k50 w Ze Za.length Za) (Zq:Za.length≤Zd) (h0:0≤Zc) (h1:Zc≤1000000) (hl:Za.length≤1000000) (hE: ∀ k:Nat,k<Za.length→0≤eTo (rd_T50 Za k)∧eTo (rd_T50 Za k)<Zc):
  Calls Try.prog 84 #[.agg #[.int .i64 Zc, .bool Zb, .slice Ze Za.length Zd]] w fun e w'=> ∃ v0_:Value,e= .returned v0_∧Kd.S (Kd.slice 3 (Kd.int .i64)) 31 w' w.heap.size (fun _=>True) v0_ (lsAt eTo Za Zc.toNat Za.length)∧Below w.heap.size w w':=by
 have hu24:=Try.underlying24;have Zj:=Ya Zp;have Zs:=Ya Zq;have HE:=Ya hE;clear Zp Zq hE;have HB:=Ya (Yo w.heap.size w);go_enter Try.func84,Try.ntmps84;go_wp2_with (first|((with_reducible refine gate_dst (N:=1) rfl ?_);refine Yz ?hg (N:=1) ?hd (cs:= #[.int .i64 Zc, .bool Zb, .slice Ze Za.length Zd]) (t:=24) ?hr ?_;(case hd=>rfl);(case hg=>rfl);(case hr=>first|(go_simp;done)|(go_simp;rfl));intro Wb hg w4 Zf hb;have n0_:=Ya (Yk (by repeat(first|(with_reducible first|exact HB.out|apply Ye|apply Yd|apply Yg)|exact HB.out)) hb);have n1_:=Ya (Zf);have n2_:=Ya (Yt Zj.out hb);clear HB Zj;have HB:=n0_;have Zw:=n1_;have Zj:=n2_;clear n0_ n1_ n2_;clear hb Zf hg;have hcz5_0:w4.cell? ⟨Wb,0,none⟩=some (.int .i64 Zc):=(Yc Zw.out 0).trans rfl;have hcz5_1:w4.cell? ⟨Wb,1,none⟩=some (.bool Zb):=(Yc Zw.out 1).trans rfl;have hcz5_2:w4.cell? ⟨Wb,2,none⟩=some (.slice Ze Za.length Zd):=(Yc Zw.out 2).trans rfl)|fail);refine(listsTo_calls Zc Zb Ze Zd Za _ Zj.out Zs.out h0 h1 hl HE.out).mono ?_;rintro e w5 ⟨v0,rfl,hS,hb⟩;have HS:=Ya (Kd.S_lower hS HB.out.size);have HB5:=Ya (Yk HB.out hb);clear hS hb hcz5_0 hcz5_1 hcz5_2 Zw;go_wp2;go_ret;exact⟨_,rfl,HS.out,HB5.out⟩
end H
namespace H
open P
def stL (l:List S50) (v:Int):Nat→List S79
 |0=>[]
 |k+1=>stL l v k ++ (if eFrom (rd_T50 l k)=v then [⟨k,false⟩] else []) ++ (if eTo (rd_T50 l k)=v then [⟨k,true⟩] else [])
def ltS (x y:S79):Prop:=x.f0<y.f0∨x.f0=y.f0∧x.f1=false∧y.f1=true
def IsSt (l:List S50) (v:Int) (k:Nat) (s:S79):Prop:= ∃ i:Nat,i<k∧s.f0=i∧(s.f1=false∧eFrom (rd_T50 l i)=v∨s.f1=true∧eTo (rd_T50 l i)=v)
theorem mem_stL (l:List S50) (v:Int) (k:Nat) (s:S79):s∈stL l v k↔IsSt l v k s:=by
 induction k with
 |zero=>
  constructor
  ·intro h;cases h
  ·rintro⟨i,h,_⟩;omega
 |succ k ih=>
  unfold stL;rw[List.mem_append,List.mem_append,ih];constructor
  ·rintro((⟨i,h1,h2⟩|h)|h)
   ·exact⟨i,by omega,h2⟩
   ·split at h
    ·rename_i he
     rw[List.mem_singleton] at h;subst h;exact⟨k,by omega,rfl,Or.inl ⟨rfl,he⟩⟩
    ·cases h
   ·split at h
    ·rename_i he
     rw[List.mem_singleton] at h;subst h;exact⟨k,by omega,rfl,Or.inr ⟨rfl,he⟩⟩
    ·cases h
  ·rintro⟨i,h1,h2,h3⟩
   by_cases hi:i<k
   ·exact Or.inl (Or.inl ⟨i,hi,h2,h3⟩)
   ·have e:i=k:=by omega
    subst e;obtain⟨x,y⟩:=s;simp only at h2 h3;subst h2;rcases h3 with ⟨rfl,h4⟩|⟨rfl,h4⟩
    ·exact Or.inl (Or.inr (by rw[Yx h4];exact List.mem_singleton.2 rfl))
    ·exact Or.inr (by rw[Yx h4];exact List.mem_singleton.2 rfl)
theorem sorted_stL (l:List S50) (v:Int) (k:Nat):(stL l v k).Pairwise ltS:=by
 induction k with
 |zero=>exact List.Pairwise.nil
 |succ k ih=>
  unfold stL;rw[List.pairwise_append,List.pairwise_append];refine⟨⟨ih,by split<;>simp,fun a ha b hb=> ?_⟩,by split<;>simp,fun a ha b hb=> ?_⟩
  ·obtain⟨i,h1,h2,_⟩:=(mem_stL l v k a).1 ha
   split at hb
   ·rw[List.mem_singleton] at hb
    subst hb;exact Or.inl (by show a.f0<(k:Int);omega)
   ·cases hb
  ·split at hb
   ·rw[List.mem_singleton] at hb
    subst hb;rcases List.mem_append.1 ha with ha|ha
    ·obtain⟨i,h1,h2,_⟩:=(mem_stL l v k a).1 ha
     exact Or.inl (by show a.f0<(k:Int);omega)
    ·split at ha
     ·rw[List.mem_singleton] at ha
      subst ha;exact Or.inr ⟨rfl,rfl,rfl⟩
     ·cases ha
   ·cases hb
theorem ltS_irr (x:S79): ¬ ltS x x:=by
 rintro(h|⟨_,h1,h2⟩)
 ·omega
 ·rw[h1] at h2;cases h2
theorem ltS_trans {x y z:S79} (h:ltS x y) (k:ltS y z):ltS x z:=by
 rcases h with h|⟨h1,h2,h3⟩<;>rcases k with k|⟨k1,k2,k3⟩
 ·exact Or.inl (by omega)
 ·exact Or.inl (by omega)
 ·exact Or.inl (by omega)
 ·rw[h3] at k2;cases k2
theorem sorted_uniq: ∀ (a b:List S79),a.Pairwise ltS→b.Pairwise ltS→(∀ s,s∈a↔s∈b)→a=b
 |[],[],_,_,_=>rfl
 |[],y::b,_,_,h=>by have:=(h y).2 (List.mem_cons_self ..);cases this
 |x::a,[],_,_,h=>by have:=(h x).1 (List.mem_cons_self ..);cases this
 |x::a,y::b,ha,hb,h=>by
  rw[List.pairwise_cons] at ha hb;have e:x=y:=by
   rcases List.mem_cons.1 ((h x).1 (List.mem_cons_self ..)) with e|h1
   ·exact e
   ·rcases List.mem_cons.1 ((h y).2 (List.mem_cons_self ..)) with e|h2
    ·exact e.symm
    ·exact absurd (ltS_trans (ha.1 y h2) (hb.1 x h1)) (ltS_irr x)
  subst e;rw[sorted_uniq a b ha.2 hb.2 fun s=>⟨fun hs=> ?_,fun hs=> ?_⟩]
  ·rcases List.mem_cons.1 ((h s).1 (List.mem_cons_of_mem _ hs)) with e|h1
   ·subst e;exact absurd (ha.1 s hs) (ltS_irr s)
   ·exact h1
  ·rcases List.mem_cons.1 ((h s).2 (List.mem_cons_of_mem _ hs)) with e|h1
   ·subst e;exact absurd (hb.1 s hs) (ltS_irr s)
   ·exact h1
theorem lsAt_spec (E:S50→Int) (l:List S50) (n:Nat) (v:Int) (hv0:0≤v) (hv:v<n): ∀ k:Nat,(∀ i:Nat,i<k→0≤E (rd_T50 l i)∧E (rd_T50 l i)<n)→
  (∀ x,x∈rd_L5 (lsAt E l n k) v↔ ∃ i:Nat,i<k∧x=i∧E (rd_T50 l i)=v)∧(rd_L5 (lsAt E l n k) v).Pairwise (· < ·):=by
 intro k
 induction k with
 |zero=>
  intro _;have e:rd_L5 (lsAt E l n 0) v=[]:=by
   unfold rd_L5 lsAt;rw[List.getD_eq_getElem?_getD,List.getElem?_replicate];split<;>rfl
  rw[e];refine⟨fun x=>Iff.intro (fun h=>by cases h) ?_,List.Pairwise.nil⟩;rintro⟨i,h,_⟩;omega
 |succ k ih=>
  intro hE;obtain⟨h1,h2⟩:=ih fun i hi=>hE i (by omega)
  have hk:=hE k (by omega);by_cases c:E (rd_T50 l k)=v
  ·have e:rd_L5 (lsAt E l n (k+1)) v=rd_L5 (lsAt E l n k) v ++ [(k:Int)]:=by
    show (List.set _ _ _).getD v.toNat []=_;rw[c,List.getD_eq_getElem?_getD,List.getElem?_set_self (by rw[lsAt_len];omega)];rfl
   rw[e];refine⟨fun x=> ?_,?_⟩
   ·rw[List.mem_append,h1,List.mem_singleton]
    constructor
    ·rintro(⟨i,a,b,d⟩|rfl)
     ·exact⟨i,by omega,b,d⟩
     ·exact⟨k,by omega,rfl,c⟩
    ·rintro⟨i,a,b,d⟩
     by_cases hi:i<k
     ·exact Or.inl ⟨i,hi,b,d⟩
     ·exact Or.inr (by rw[b];congr 1;omega)
   ·rw[List.pairwise_append]
    refine⟨h2,List.pairwise_singleton _ _,fun a ha b hb=> ?_⟩;rw[List.mem_singleton] at hb;obtain⟨i,q1,q2,_⟩:=(h1 a).1 ha;omega
  ·have e:rd_L5 (lsAt E l n (k+1)) v=rd_L5 (lsAt E l n k) v:=by
    show (List.set _ _ _).getD v.toNat []=_;rw[List.getD_eq_getElem?_getD,List.getElem?_set_ne (by omega), ← List.getD_eq_getElem?_getD];rfl
   rw[e];refine⟨fun x=> ?_,h2⟩;rw[h1];constructor
   ·rintro⟨i,a,b,d⟩;exact⟨i,by omega,b,d⟩
   ·rintro⟨i,a,b,d⟩
    by_cases hi:i<k
    ·exact⟨i,hi,b,d⟩
    ·have e2:i=k:=by omega
     subst e2;exact absurd d c
def stepsU (l:List S50) (n:Nat) (v:Int):List S79:=
 (rd_L5 (lsAt eFrom l n l.length) v).map (fun i=>⟨i,false⟩) ++ (rd_L5 (lsAt eTo l n l.length) v).map (fun i=>⟨i,true⟩)
def ends (l:List S50) (n:Nat):Prop:= ∀ i:Nat,i<l.length→(0≤eFrom (rd_T50 l i)∧eFrom (rd_T50 l i)<n)∧(0≤eTo (rd_T50 l i)∧eTo (rd_T50 l i)<n)
theorem mem_stepsU (l:List S50) (n:Nat) (v:Int) (hv0:0≤v) (hv:v<n) (h:ends l n) (s:S79):s∈stepsU l n v↔IsSt l v l.length s:=by
 have hf:=(lsAt_spec eFrom l n v hv0 hv l.length fun i hi=>(h i hi).1).1;have ht:=(lsAt_spec eTo l n v hv0 hv l.length fun i hi=>(h i hi).2).1;unfold stepsU;rw[List.mem_append,List.mem_map,List.mem_map];constructor
 ·rintro(⟨x,hx,rfl⟩|⟨x,hx,rfl⟩)
  ·obtain⟨i,a,b,d⟩:=(hf x).1 hx
   exact⟨i,a,b,Or.inl ⟨rfl,d⟩⟩
  ·obtain⟨i,a,b,d⟩:=(ht x).1 hx
   exact⟨i,a,b,Or.inr ⟨rfl,d⟩⟩
 ·rintro⟨i,a,b,⟨c,d⟩|⟨c,d⟩⟩
  ·exact Or.inl ⟨s.f0,(hf _).2 ⟨i,a,b,d⟩,by obtain⟨x,y⟩:=s;simp only at c;subst c;rfl⟩
  ·exact Or.inr ⟨s.f0,(ht _).2 ⟨i,a,b,d⟩,by obtain⟨x,y⟩:=s;simp only at c;subst c;rfl⟩
theorem stab_stepsU (l:List S50) (n:Nat) (v:Int) (hv0:0≤v) (hv:v<n) (h:ends l n):(stepsU l n v).Pairwise fun x y=>x.f0=y.f0→x.f1=false∧y.f1=true:=by
 have hf:=(lsAt_spec eFrom l n v hv0 hv l.length fun i hi=>(h i hi).1).2;have ht:=(lsAt_spec eTo l n v hv0 hv l.length fun i hi=>(h i hi).2).2;unfold stepsU;rw[List.pairwise_append,List.pairwise_map,List.pairwise_map];refine⟨hf.imp fun {a b} hab e=> ?_,ht.imp fun {a b} hab e=> ?_,fun a ha b hb e=> ?_⟩
 ·simp only at e;omega
 ·simp only at e;omega
 ·obtain⟨x,_,rfl⟩:=List.mem_map.1 ha
  obtain⟨y,_,rfl⟩:=List.mem_map.1 hb;exact⟨rfl,rfl⟩
end H
namespace H
open P
def stFrom (l:List S50) (s:S79):Int:=if s.f1 then eTo (rd_T50 l s.f0) else eFrom (rd_T50 l s.f0)
def stTo (l:List S50) (s:S79):Int:=if s.f1 then eFrom (rd_T50 l s.f0) else eTo (rd_T50 l s.f0)
def stTime (l:List S50) (s:S79):Int:=if s.f1 then -(rd_T50 l s.f0).f3 else(rd_T50 l s.f0).f3
def stRoom (l:List S50) (F:List Int) (s:S79):Int:=if s.f1 then F.getD s.f0.toNat 0 else(rd_T50 l s.f0).f2 - F.getD s.f0.toNat 0
structure Rch where
 D:List Int
 I:List Bool
 B:List S79
 still:Bool
def visC (l:List S50) (F:List Int) (v:Nat) (x:Rch) (s:S79):Bool:=
 decide (0<stRoom l F s) && (!x.I.getD (stTo l s).toNat false || decide (x.D.getD v 0+stTime l s<x.D.getD (stTo l s).toNat 0))
def visR (l:List S50) (F:List Int) (v:Nat) (x:Rch) (s:S79):Rch:=
 if visC l F v x s then⟨x.D.set (stTo l s).toNat (x.D.getD v 0+stTime l s),x.I.set (stTo l s).toNat true,x.B.set (stTo l s).toNat s,false⟩ else x
def rowR (l:List S50) (F:List Int) (x:Rch) (v:Nat):Rch:=if x.I.getD v false then(stL l v l.length).foldl (visR l F v) x else x
def roundR (l:List S50) (F:List Int) (n:Nat) (x:Rch):Rch:=(List.range n).foldl (rowR l F) { x with still:=true }
def goesR (l:List S50) (F:List Int) (n:Nat):Nat→Rch→Rch × Bool
 |0,x=>(x,false)
 |k+1,x=>if (roundR l F n x).still then(roundR l F n x,true) else goesR l F n k (roundR l F n x)
def absR (x:Rch):Tm:=fun v=>if x.I.getD v false then some (x.D.getD v 0) else none
structure Rch.Ok (n:Nat) (x:Rch):Prop where
 hD:x.D.length=n
 hI:x.I.length=n
 hB:x.B.length=n
theorem visR_ok {l:List S50} {F:List Int} {n v:Nat} {x:Rch} (h:x.Ok n) (s:S79):(visR l F v x s).Ok n:=by
 unfold visR;split
 ·exact⟨by simp[h.hD],by simp[h.hI],by simp[h.hB]⟩
 ·exact h
theorem foldR_ok {l:List S50} {F:List Int} {n v:Nat} (r:List S79) {x:Rch} (h:x.Ok n):(r.foldl (visR l F v) x).Ok n:=by
 induction r generalizing x with
 |nil=>exact h
 |cons s r ih=>exact ih (visR_ok h s)
theorem rowR_ok {l:List S50} {F:List Int} {n v:Nat} {x:Rch} (h:x.Ok n):(rowR l F x v).Ok n:=by
 unfold rowR;split
 ·exact foldR_ok _ h
 ·exact h
def edgeS (l:List S50) (v:Nat) (s:S79):Ed:=(v,(stTo l s).toNat,stTime l s)
theorem getD_set_ne {β:Type} (L:List β) (i j:Nat) (x d:β) (h:i≠j):(L.set i x).getD j d=L.getD j d:=by
 rw[List.getD_eq_getElem?_getD,List.getElem?_set_ne h,List.getD_eq_getElem?_getD]
theorem getD_set_eq {β:Type} (L:List β) (i:Nat) (x d:β) (h:i<L.length):(L.set i x).getD i d=x:=by
 rw[List.getD_eq_getElem?_getD,List.getElem?_set_self h];rfl
theorem visR_abs {l:List S50} {F:List Int} {n v:Nat} {x:Rch} (h:x.Ok n) (s:S79) (hv:x.I.getD v false=true) (hw:(stTo l s).toNat<n):
  absR (visR l F v x s)=(if 0<stRoom l F s then relax (absR x) (edgeS l v s) else absR x)∧(visR l F v x s).still=(x.still && !(decide (0<stRoom l F s) && trig (absR x) (edgeS l v s)))∧(visR l F v x s).I.getD v false=true:=by
 have hσ:absR x v=some (x.D.getD v 0):=by unfold absR;rw[Yx hv]
 have htr:trig (absR x) (edgeS l v s)=(!x.I.getD (stTo l s).toNat false || decide (x.D.getD v 0+stTime l s<x.D.getD (stTo l s).toNat 0)):=by
  unfold trig edgeS;simp only[hσ];cases hi:x.I.getD (stTo l s).toNat false with
  |false=>
   have h2:absR x (stTo l s).toNat=none:=by unfold absR;rw[hi];rfl
   rw[h2];rfl
  |true=>
   have h2:absR x (stTo l s).toNat=some (x.D.getD (stTo l s).toNat 0):=by unfold absR;rw[hi];rfl
   rw[h2];rfl
 have hc:visC l F v x s=(decide (0<stRoom l F s) && trig (absR x) (edgeS l v s)):=by rw[htr];rfl
 unfold visR;rw[hc];by_cases hr:0<stRoom l F s
 ·rw[Yx hr,Yv hr,Bool.true_and]
  cases ht:trig (absR x) (edgeS l v s) with
  |false=>
   rw[relax_off ht];refine⟨rfl,?_,hv⟩;simp
  |true=>
   refine⟨?_,by simp,?_⟩
   ·funext u
    rw[relax_on ht (show absR x (edgeS l v s).1=_ from hσ)];show (if (x.I.set (stTo l s).toNat true).getD u false=true then some ((x.D.set (stTo l s).toNat (x.D.getD v 0+stTime l s)).getD u 0) else none)=if u=(stTo l s).toNat then _ else absR x u
    by_cases hu:u=(stTo l s).toNat
    ·subst hu
     rw[Yx rfl,getD_set_eq _ _ _ _ (by rw[h.hI];exact hw),getD_set_eq _ _ _ _ (by rw[h.hD];exact hw),Yx rfl];rfl
    ·rw[Yy hu,getD_set_ne _ _ _ _ _ (Ne.symm hu),getD_set_ne _ _ _ _ _ (Ne.symm hu)]
     rfl
   ·show (x.I.set (stTo l s).toNat true).getD v false=true
    by_cases hu:(stTo l s).toNat=v
    ·rw[hu,getD_set_eq _ _ _ _ (by rw[h.hI, ← hu];exact hw)]
    ·rw[getD_set_ne _ _ _ _ _ hu];exact hv
 ·rw[Yy hr,Yw hr,Bool.false_and]
  refine⟨rfl,by simp,hv⟩
def liveS (l:List S50) (F:List Int) (v:Nat):List Ed:=((stL l v l.length).filter (fun s=>decide (0<stRoom l F s))).map (edgeS l v)
theorem passT_app (E G:List Ed) (σ:Tm) (b:Bool):passT (E ++ G) σ b=passT G (passT E σ b).1 (passT E σ b).2:=by
 unfold passT;rw[List.foldl_append]
theorem passT_or (E:List Ed) (σ:Tm) (b:Bool):(passT E σ b).2=(b || (passT E σ false).2):=by
 cases b with
 |false=>rw[Bool.false_or]
 |true=>rw[passT_true];rfl
theorem foldR_abs {l:List S50} {F:List Int} {n v:Nat} (r:List S79) (hw: ∀ s,s∈r→(stTo l s).toNat<n) {x:Rch} (h:x.Ok n) (hv:x.I.getD v false=true):
  absR (r.foldl (visR l F v) x)=pass ((r.filter (fun s=>decide (0<stRoom l F s))).map (edgeS l v)) (absR x)∧
  (r.foldl (visR l F v) x).still=(x.still && !(passT ((r.filter (fun s=>decide (0<stRoom l F s))).map (edgeS l v)) (absR x) false).2):=by
 induction r generalizing x with
 |nil=>exact⟨rfl,by simp[passT]⟩
 |cons s r ih=>
  obtain⟨h1,h2,h3⟩:=visR_abs (F:=F) h s hv (hw s List.mem_cons_self);obtain⟨h4,h5⟩:=ih (fun s hs=>hw s (List.mem_cons_of_mem _ hs)) (visR_ok h s) h3;rw[List.foldl_cons];rw[h1] at h4 h5;rw[h2] at h5;rw[h4,h5];by_cases hr:0<stRoom l F s
  ·rw[List.filter_cons_of_pos (p:=fun s=>decide (0<stRoom l F s)) (Yv hr),List.map_cons,Yx hr,Yv hr,Bool.true_and]
   refine⟨rfl,?_⟩;show _=(x.still && !(passT _ (relax (absR x) (edgeS l v s)) (false || trig (absR x) (edgeS l v s))).2);rw[passT_or _ _ (false || _),Bool.false_or];cases x.still<;>cases trig (absR x) (edgeS l v s)<;>simp
  ·rw[List.filter_cons_of_neg (p:=fun s=>decide (0<stRoom l F s)) (by simpa using hr),Yy hr,Yw hr,Bool.false_and]
   exact⟨rfl,by simp⟩
theorem rowR_abs {l:List S50} {F:List Int} {n v:Nat} (hw: ∀ s,s∈stL l v l.length→(stTo l s).toNat<n) {x:Rch} (h:x.Ok n):
  absR (rowR l F x v)=pass (liveS l F v) (absR x)∧(rowR l F x v).still=(x.still && !(passT (liveS l F v) (absR x) false).2):=by
 unfold rowR;by_cases hv:x.I.getD v false=true
 ·rw[Yx hv]
  exact foldR_abs _ hw h hv
 ·rw[Yy hv]
  have h0:absR x v=none:=by unfold absR;rw[Yy hv]
  have h1: ∀ e,e∈liveS l F v→trig (absR x) e=false:=by
   intro e he;obtain⟨s,_,rfl⟩:=List.mem_map.1 he;unfold trig edgeS;simp only[h0]
  have h2:=passT_still h1;refine⟨?_,by rw[h2];simp⟩;rw[← passT_fst _ _ false,h2]
def liveE (l:List S50) (F:List Int) (n:Nat):List Ed:=(List.range n).flatMap (liveS l F)
theorem rows_abs {l:List S50} {F:List Int} {n:Nat} (hw: ∀ (v:Nat) (s:S79),s∈stL l v l.length→(stTo l s).toNat<n) (vs:List Nat) {x:Rch} (h:x.Ok n):
  (vs.foldl (rowR l F) x).Ok n∧absR (vs.foldl (rowR l F) x)=pass (vs.flatMap (liveS l F)) (absR x)∧(vs.foldl (rowR l F) x).still=(x.still && !(passT (vs.flatMap (liveS l F)) (absR x) false).2):=by
 induction vs generalizing x with
 |nil=>exact⟨h,rfl,by simp[passT]⟩
 |cons v vs ih=>
  obtain⟨h1,h2⟩:=rowR_abs (F:=F) (hw v) h;obtain⟨h3,h4,h5⟩:=ih (rowR_ok (l:=l) (F:=F) (v:=v) h);rw[List.foldl_cons,List.flatMap_cons];refine⟨h3,?_,?_⟩
  ·rw[h4,h1]
   unfold pass;rw[List.foldl_append]
  ·rw[h5,h2,h1,passT_app,passT_or _ _ (passT (liveS l F v) (absR x) false).2,passT_fst]
   cases x.still<;>simp
theorem roundR_abs {l:List S50} {F:List Int} {n:Nat} (hw: ∀ (v:Nat) (s:S79),s∈stL l v l.length→(stTo l s).toNat<n) {x:Rch} (h:x.Ok n):
  (roundR l F n x).Ok n∧absR (roundR l F n x)=pass (liveE l F n) (absR x)∧(roundR l F n x).still= !(passT (liveE l F n) (absR x) false).2:=by
 obtain⟨h1,h2,h3⟩:=rows_abs (F:=F) hw (List.range n) (x:= { x with still:=true }) ⟨h.hD,h.hI,h.hB⟩;refine⟨h1,h2,?_⟩;unfold roundR;rw[h3];simp[liveE];rfl
theorem goesR_spec {l:List S50} {F:List Int} {n:Nat} (hw: ∀ (v:Nat) (s:S79),s∈stL l v l.length→(stTo l s).toNat<n) (k:Nat) {x:Rch} (h:x.Ok n):
  (goesR l F n k x).1.Ok n∧(∃ m,m≤k∧absR (goesR l F n k x).1=its (liveE l F n) m (absR x))∧((goesR l F n k x).2=true→ ∀ e,e∈liveE l F n→trig (absR (goesR l F n k x).1) e=false)∧
  ((goesR l F n k x).2=false→ ∀ m,m<k→pass (liveE l F n) (its (liveE l F n) m (absR x))≠its (liveE l F n) m (absR x)):=by
 induction k generalizing x with
 |zero=>exact⟨h,⟨0,Nat.le_refl _,rfl⟩,fun h=>(by cases h),fun _ m hm=>absurd hm (Nat.not_lt_zero _)⟩
 |succ k ih=>
  obtain⟨h1,h2,h3⟩:=roundR_abs (F:=F) hw h;unfold goesR;cases hs:(roundR l F n x).still with
  |true=>
   rw[Yx rfl];have hq:(passT (liveE l F n) (absR x) false).2=false:=by rw[hs] at h3;simpa using h3.symm
   have hq2:=passT_still (passT_false hq);have hq3:pass (liveE l F n) (absR x)=absR x:=by rw[← passT_fst _ _ false,hq2]
   refine⟨h1,⟨0,Nat.zero_le _,by show absR (roundR l F n x)=absR x;rw[h2,hq3]⟩,fun _=> ?_,fun h=>(by cases h)⟩;show ∀ e,e∈liveE l F n→trig (absR (roundR l F n x)) e=false;rw[h2,hq3];exact passT_false hq
  |false=>
   rw[Yy (by simp)];obtain⟨g1,⟨m,hm,g2⟩,g3,g4⟩:=ih h1;refine⟨g1,⟨m+1,by omega,?_⟩,g3,fun hf m hm=> ?_⟩
   ·rw[g2,h2];rfl
   ·cases m with
    |zero=>
     show pass (liveE l F n) (absR x)≠absR x;intro he;have:=passT_still (pass_fix he);rw[this,hs] at h3;cases h3
    |succ m=>
     have:=g4 hf m (by omega);rw[h2] at this;exact this
end H
namespace H
structure BelowW (w:World) where
 at_:World
 below:Below w.heap.size w at_
instance (w:World):Inhabited (BelowW w):=⟨⟨w,Yo _ _⟩⟩
theorem wp_region_quiet_below {P:Program} {id:Nat} {Q:Exit→Act→World→Prop} {a:Act} {w:World} {l:List Oper} (hm:P.follows .mixedOrders=true) (hB:Region.lexB .any l.toArray=true)
  (h:wpQuiet P l.toArray (fun w'=> ∃ p:BelowW w,w'=p.at_) (fun a'=> ∀ w',(∃ p:BelowW w,w'=p.at_)→Q .normal a' w') l a):(Code.region id l.toArray true).wp P Q a w:=
 wp_region_quiet (C:=fun w'=> ∃ p:BelowW w,w'=p.at_) hm hB ⟨⟨w.drew,below_drew (Yo _ _)⟩,rfl⟩ (by simpa using h)
theorem calls_below_of {P:Program} {f:FuncId} {args:Array Value} {w:World} {p:BelowW w} {v:Value} (h:Calls P f args p.at_ fun e w'=>e= .returned v∧Below p.at_.heap.size p.at_ w'):
  Calls P f args p.at_ fun e w''=>e= .returned v∧ ∃ q:BelowW w,w''=q.at_:=
 h.mono fun _ w' ⟨he,hb⟩=>⟨he,⟨w',below_then p.below p.below.size hb⟩,rfl⟩
theorem BelowW.cell {w:World} (p:BelowW w) {a:Addr} {v:Value} (h:w.cell? a=some v):p.at_.cell? a=some v:=pw_cell_below p.below h
end H
namespace H
open P
attribute [local irreducible] wpQuiet
set_option maxRecDepth 100000 in
theorem cmp_calls (x y:S79) (hx0:0≤x.f0) (hx1:x.f0≤1000000) (hy0:0≤y.f0) (hy1:y.f0≤1000000) (w:World):
  Calls Try.prog 86 #[.agg #[.int .i64 x.f0, .bool x.f1], .agg #[.int .i64 y.f0, .bool y.f1]] w fun e w'=>e= .returned (.int .i64 (x.f0 - y.f0))∧Below w.heap.size w w':=by
 go_enter Try.func86,Try.ntmps86;go_wp2;go_ret;exact⟨rfl,((Yo _ _).alloc (Nat.le_refl _) _).alloc (by simp) _⟩
set_option maxHeartbeats 1000000 in
set_option maxRecDepth 100000 in
theorem insertion_calls (g N cap:Nat) (M:Nat→S79) (a b:Nat) (w:World) (h:Arr w g N M) (hN:N≤1000000) (hab:a≤b) (hb:b≤N) (hs:Stab M N) (hsm:Small M N):
  Calls Try.prog 104 #[.slice (some ⟨g,0,none⟩) N cap, .int .i64 (a:Int), .int .i64 (b:Int), .func (.func 86) #[] #[]] w fun e w'=>e= .returned (.tuple #[])∧(∃ K,Arr w' g N K∧Sorted M K N a b)∧Fr w w' g:=by
 have HA:=Ya h;have HSM:=Ya hsm;have HST:=Ya hs;clear h hs hsm;go_enter Try.func104,Try.ntmps104;go_wp2;go_loopw [8] (fun i wr=> ∃ k:Nat,a+1≤k∧(k≤b∨k=a+1)∧i= .int .i64 k∧(∃ K,Aside0 (Arr wr g N K)∧Aside0 (Mix M K a b∧Stab K N∧Small K N∧Le K a k))∧Aside0 (Fr w wr g)) (fun i _=>b+1 - (intOf i).toNat)
 case atStart=>exact⟨a+1,by omega,by omega,by go_num,⟨M,HA,⟨mix_refl _ _ _,HST.out,HSM.out,le_one _ _ _ (Nat.le_refl _)⟩⟩,⟨grow_refl _ _⟩⟩
 case round=>
  obtain⟨k,hk0,hk,rfl,⟨K,HA1,HK1⟩,HG⟩:=hrel;clear HA HSM HST;by_cases hlt:k<b
  ·have HH:Aside0 (Mix M K a b∧Stab K N∧Small K N∧Hole K a k k):=⟨HK1.out.1,HK1.out.2.1,HK1.out.2.2.1,hole_start HK1.out.2.2.2⟩
   clear HK1;go_wp2;obtain⟨wo,rfl⟩: ∃ wo:World,wo=wr:=⟨_,rfl⟩;go_loopw [9] (fun vj wr=> ∃ j:Nat,a≤j∧j≤k∧vj= .int .i64 j∧(∃ K,Aside0 (Arr wr g N K)∧Aside0 (Mix M K a b∧Stab K N∧Small K N∧Hole K a k j))∧Aside0 (Fr w wr g)) (fun vj _=>(intOf vj).toNat)
   case atStart=>exact⟨k,by omega,Nat.le_refl _,rfl,⟨K,HA1,HH⟩,HG⟩
   case round=>
    clear HA1 HH HG;obtain⟨j,hj0,hj,rfl,⟨K,HA1,HK⟩,HG⟩:=hrel;by_cases hja:a<j
    ·obtain⟨jp,rfl⟩: ∃ jp,j=jp+1:=⟨j - 1,by omega⟩
     have c0:=HA1.out.cell0 (x:=jp+1) (by omega);have c1:=HA1.out.cell1 (x:=jp+1) (by omega);have d0:=HA1.out.cell0 (x:=jp) (by omega);have d1:=HA1.out.cell1 (x:=jp) (by omega);have cc0: ∀ p:BelowW wr,p.at_.cell? ⟨g,(jp+1) * 2,none⟩=some (.int .i64 (K (jp+1)).f0):=fun p=>p.cell c0
     have cc1: ∀ p:BelowW wr,p.at_.cell? ⟨g,(jp+1) * 2+1,none⟩=some (.bool (K (jp+1)).f1):=fun p=>p.cell c1
     have dd0: ∀ p:BelowW wr,p.at_.cell? ⟨g,jp * 2,none⟩=some (.int .i64 (K jp).f0):=fun p=>p.cell d0
     have dd1: ∀ p:BelowW wr,p.at_.cell? ⟨g,jp * 2+1,none⟩=some (.bool (K jp).f1):=fun p=>p.cell d1
     have hwp:IntKind.i64.wrap (jp:Int)=(jp:Int):=by rw[IntKind.wrap_i64];omega
     have jz:(jp:Int)+1<(N:Int):=by omega
     have jz1:(jp:Int)<(N:Int):=by omega
     have p0:(0:Int)≤(jp:Int)+1:=by omega
     have e0:((jp:Int)+1).toNat=jp+1:=by omega
     have g1:(a:Int)<(jp:Int)+1:=by omega
     have e1:=HK.out.2.2.1 (jp+1) (by omega);have e2:=HK.out.2.2.1 jp (by omega);clear c0 c1 d0 d1;go_wp2;refine wp_region_quiet_below (by kernel_rfl) (by kernel_rfl) ?_;(repeat(quiet_step ((go_at_call 86;exact calls_below_of (cmp_calls (K (jp+1)) (K jp) e1.1 e1.2 e2.1 e2.2 _)))));refine wpQuiet_nil ?_;intro wq hw';obtain⟨⟨wz,hbq⟩,hwq⟩:=hw';subst hwq;have HA2:Aside0 (Arr wq g N K):=⟨HA1.out.below hbq⟩;have HG2:Aside0 (Fr w wq g):=⟨grow_trans HG.out (grow_below hbq)⟩;clear cc0 cc1 dd0 dd1 HA1 HG hbq;by_cases hc:(K (jp+1)).f0<(K jp).f0
     ·have hcd:(K (jp+1)).f0 - (K jp).f0<0:=by omega
      have HK2:Aside0 (Mix M (sw K jp) a b∧Stab (sw K jp) N∧Small (sw K jp) N∧Hole (sw K jp) a k jp):=
       ⟨mix_trans HK.out.1 (sw_mix K jp a b (by omega) (by omega)),sw_stab HK.out.2.1 (by omega) hc,mix_small (sw_mix K jp a b (by omega) (by omega)) hb HK.out.2.2.1,hole_swap HK.out.2.2.2 (by omega) (by omega) hc⟩
      have c0:=HA2.out.cell0 (x:=jp+1) (by omega);have c1:=HA2.out.cell1 (x:=jp+1) (by omega);have d0:=HA2.out.cell0 (x:=jp) (by omega);have d1:=HA2.out.cell1 (x:=jp) (by omega);have f0:=HA2.out.free;have HE:Aside0 (∀ x,upd (upd K (jp+1) (K jp)) jp (K (jp+1)) x=sw K jp x):=⟨sw_put1 K jp⟩;obtain⟨s1,hs1⟩: ∃ s,K (jp+1)=s:=⟨_,rfl⟩;obtain⟨s2,hs2⟩: ∃ s,K jp=s:=⟨_,rfl⟩;have HE2:Aside0 (∀ x,upd (upd K (jp+1) s2) jp s1 x=sw K jp x):=by rw[← hs1, ← hs2];exact HE
      rw[hs1] at c0 c1 hcd ⊢;rw[hs2] at d0 d1 hcd ⊢;clear e1 e2 HK hc HE hs1 hs2;go_wp2_with fail;go_region;have HA3:Aside0 (Arr (((((wq.setCell ⟨g,(jp+1) * 2,none⟩ (.int .i64 s2.f0)).setCell ⟨g,(jp+1) * 2+1,none⟩ (.bool s2.f1)).setCell ⟨g,jp * 2,none⟩ (.int .i64 s1.f0)).setCell ⟨g,jp * 2+1,none⟩ (.bool s1.f1)).drew) g N (sw K jp)):=
       ⟨(((HA2.out.put (by omega) s2).put (by omega) s1).drew).congr fun x _=>(HE2.out x).symm⟩
      have HG3:=Ya (grow_drew (grow_set (grow_set (grow_set (grow_set HG2.out ((jp+1) * 2) (.int .i64 s2.f0)) ((jp+1) * 2+1) (.bool s2.f1)) (jp * 2) (.int .i64 s1.f0)) (jp * 2+1) (.bool s1.f1)));clear c0 c1 d0 d1 f0 HA2 HG2 HE2;go_wp2;go_roundw
      case rel=>exact⟨jp,by omega,by omega,rfl,⟨_,HA3,HK2⟩,HG3⟩
      case measure=>simp[intOf]<;>omega
     ·have hcd: ¬ ((K (jp+1)).f0 - (K jp).f0<0):=by omega
      have HK2:Aside0 (Mix M K a b∧Stab K N∧Small K N∧Le K a (k+1)):=
       ⟨HK.out.1,HK.out.2.1,HK.out.2.2.1,hole_stop HK.out.2.2.2 (Or.inr ⟨by omega,by rw[Nat.add_sub_cancel];omega⟩)⟩
      clear e1 e2 HK hc;go_wp2_with fail;go_roundw
      case rel=>exact⟨k+1,by omega,by omega,by go_num,⟨_,HA2,HK2⟩,HG2⟩
      case measure=>simp[intOf]<;>omega
    ·have ej:j=a:=by omega
     have HK2:Aside0 (Mix M K a b∧Stab K N∧Small K N∧Le K a (k+1)):=
      ⟨HK.out.1,HK.out.2.1,HK.out.2.2.1,hole_stop HK.out.2.2.2 (Or.inl ej)⟩
     have g1: ¬ ((a:Int)<(j:Int)):=by omega
     clear HK;go_wp2;refine wp_region_quiet_below (by kernel_rfl) (by kernel_rfl) ?_;(repeat(quiet_step ((fail))));refine wpQuiet_nil ?_;intro wq hw';obtain⟨⟨wz,hbq⟩,hwq⟩:=hw';subst hwq;have HA2:Aside0 (Arr wq g N K):=⟨HA1.out.below hbq⟩;have HG2:Aside0 (Fr w wq g):=⟨grow_trans HG.out (grow_below hbq)⟩;clear HA1 HG hbq;go_wp2_with fail;go_roundw
     case rel=>exact⟨k+1,by omega,by omega,by go_num,⟨_,HA2,HK2⟩,HG2⟩
     case measure=>simp[intOf]<;>omega
  ·go_wp2
   go_end0;refine⟨rfl,⟨K,HA1.out,HK1.out.1,HK1.out.2.1,HK1.out.2.2.1,?_⟩,HG.out⟩;intro x y h1 h2 h3;exact HK1.out.2.2.2 x y h1 h2 (by omega)
end H
namespace H
open P
attribute [local irreducible] wpQuiet
theorem Arr.q0 {w:World} {g N:Nat} {M:Nat→S79} (h:Arr w g N M) {x:Nat} (hx:x<N): ∀ p:BelowW w,p.at_.cell? ⟨g,x * 2,none⟩=some (.int .i64 (M x).f0):=fun p=>p.cell (h.cell0 hx)
theorem Arr.q1 {w:World} {g N:Nat} {M:Nat→S79} (h:Arr w g N M) {x:Nat} (hx:x<N): ∀ p:BelowW w,p.at_.cell? ⟨g,x * 2+1,none⟩=some (.bool (M x).f1):=fun p=>p.cell (h.cell1 hx)
set_option maxHeartbeats 1000000 in
set_option maxRecDepth 100000 in
theorem symLo_calls (g N cap:Nat) (M:Nat→S79) (a b:Nat) (w:World) (h:Arr w g N M) (hN:N≤1000000) (hab:a+1<b) (hb:b≤N) (hs:Stab M N) (hsm:Small M N) (hle:Le M (a+1) b):
  Calls Try.prog 105 #[.slice (some ⟨g,0,none⟩) N cap, .int .i64 (a:Int), .int .i64 ((a:Int)+1), .int .i64 (b:Int), .func (.func 86) #[] #[]] w fun e w'=>e= .returned (.tuple #[])∧(∃ K,Arr w' g N K∧Sorted M K N a b)∧Fr w w' g:=by
 have HA:=Ya h;have HSM:=Ya hsm;have HST:=Ya hs;have HLE:=Ya hle;clear h hs hsm hle;have e1:(a:Int)+1 - (a:Int)=1:=by omega
 go_enter Try.func105,Try.ntmps105;go_wp2_with fail;go_loopw [10,11] (fun vi vj wr=> ∃ i j:Nat,a+1≤i∧i≤j∧j≤b∧vi= .int .i64 i∧vj= .int .i64 j∧Aside0 (Arr wr g N M)∧Aside0 (∀ y,a+1≤y→y<i→(M y).f0<(M a).f0)∧Aside0 (∀ y,j≤y→y<b→(M a).f0≤(M y).f0)∧Aside0 (Fr w wr g)) (fun vi vj _=>(intOf vj).toNat - (intOf vi).toNat)
 case atStart=>exact⟨a+1,b,Nat.le_refl _,by omega,Nat.le_refl _,by go_num,rfl,HA,⟨fun y h1 h2=>by omega⟩,⟨fun y h1 h2=>by omega⟩,⟨grow_refl _ _⟩⟩
 case round=>
  clear HA;obtain⟨i,j,hi,hij,hj,rfl,rfl,HA1,HL,HR,HG⟩:=hrel;by_cases hlt:i<j
  ·obtain⟨c,hc⟩: ∃ c,(i+j) / 2=c:=⟨_,rfl⟩
   have hcz:((i:Int)+(j:Int)) / 2=(c:Int):=by omega
   have b1:=HSM.out c (by omega);have b2:=HSM.out a (by omega);have c0:=HA1.out.q0 (x:=c) (by omega);have c1:=HA1.out.q1 (x:=c) (by omega);have d0:=HA1.out.q0 (x:=a) (by omega);have d1:=HA1.out.q1 (x:=a) (by omega);have z1:(c:Int)<(N:Int):=by omega
   have z2:(a:Int)<(N:Int):=by omega
   go_wp2_with fail;refine wp_region_quiet_below (by kernel_rfl) (by kernel_rfl) ?_;(repeat(quiet_step ((go_at_call 86;exact calls_below_of (cmp_calls (M c) (M a) b1.1 b1.2 b2.1 b2.2 _)))));refine wpQuiet_nil ?_;intro wq hw';obtain⟨⟨wz,hbq⟩,hwq⟩:=hw';subst hwq;have HA2:Aside0 (Arr wq g N M):=⟨HA1.out.below hbq⟩;have HG2:Aside0 (Fr w wq g):=⟨grow_trans HG.out (grow_below hbq)⟩;have HC:=Ya hc;clear c0 c1 d0 d1 HA1 HG hbq hcz hc;have HC2:Aside0 (a+1≤c∧i≤c∧c<j):=by have:=HC.out;exact⟨by omega,by omega,by omega⟩
   clear HC;by_cases hlc:(M c).f0<(M a).f0
   ·have hcd:(M c).f0 - (M a).f0<0:=by omega
    have HL2:Aside0 (∀ y,a+1≤y→y<c+1→(M y).f0<(M a).f0):=⟨fun y h1 h2=>by
     have:=le_le HLE.out h1 (show y≤c by omega) (by have:=HC2.out;omega);omega⟩
    clear HL hlc b1 b2;go_wp2_with fail;go_roundw
    case rel=>exact⟨c+1,j,by have:=HC2.out;omega,by have:=HC2.out;omega,hj,by go_num,rfl,HA2,HL2,HR,HG2⟩
    case measure=>have:=HC2.out;simp[intOf]<;>omega
   ·have hcd: ¬ ((M c).f0 - (M a).f0<0):=by omega
    have HR2:Aside0 (∀ y,c≤y→y<b→(M a).f0≤(M y).f0):=⟨fun y h1 h2=>by
     have:=le_le HLE.out (show a+1≤c by have:=HC2.out;omega) h1 h2;omega⟩
    clear HR hlc b1 b2;go_wp2_with fail;go_roundw
    case rel=>exact⟨i,c,hi,by have:=HC2.out;omega,by have:=HC2.out;omega,rfl,rfl,HA2,HL,HR2,HG2⟩
    case measure=>have:=HC2.out;simp[intOf]<;>omega
  ·have ij:i=j:=by omega
   subst ij;go_wp2_with fail;have HB:Aside0 (Le (rotM M a (a+1) i) a b∧Stab (rotM M a (a+1) i) N):=⟨rot_one_lo HLE.out hi hj HL.out HR.out,rot_stab HST.out (by omega) hi (by omega) (fun x y h1 h2 h3 h4=>by
    have e:x=a:=by omega
    subst e;exact HL.out y h3 h4)⟩
   clear HL HR HLE HST;obtain⟨wo,rfl⟩: ∃ wo:World,wo=wr:=⟨_,rfl⟩;go_loopw [13] (fun vk wr=> ∃ k:Nat,a≤k∧k<i∧vk= .int .i64 k∧(∃ K,Aside0 (Arr wr g N K)∧Aside0 (∀ x,K x=rotM M a (a+1) (k+1) x))∧Aside0 (Fr w wr g)) (fun vk _=>i - (intOf vk).toNat)
   case atStart=>exact⟨a,by omega,by omega,rfl,⟨M,HA1,⟨fun x=>(rot_none M (by omega) (by omega) (Or.inr rfl) x).symm⟩⟩,HG⟩
   case round=>
    clear HA1 HG;obtain⟨k,hk0,hk,rfl,⟨K,HA1,HK⟩,HG⟩:=hrel;by_cases hlt2:k+1<i
    ·have c0:=HA1.out.cell0 (x:=k+1) (by omega)
     have c1:=HA1.out.cell1 (x:=k+1) (by omega);have d0:=HA1.out.cell0 (x:=k) (by omega);have d1:=HA1.out.cell1 (x:=k) (by omega);have f0:=HA1.out.free;have HK2:Aside0 (∀ x,upd (upd K k (K (k+1))) (k+1) (K k) x=rotM M a (a+1) (k+1+1) x):=⟨fun x=>by
      rw[sw_put2];have e:K=rotM M a (a+1) (k+1):=funext HK.out;rw[e];exact sw_rot_lo M hk0 x⟩
     obtain⟨s1,hs1⟩: ∃ s,K (k+1)=s:=⟨_,rfl⟩;obtain⟨s2,hs2⟩: ∃ s,K k=s:=⟨_,rfl⟩;rw[hs1] at c0 c1 HK2;rw[hs2] at d0 d1 HK2;clear HK hs1 hs2;go_wp2;go_region;have HA3:Aside0 (Arr (((((wr.setCell ⟨g,k * 2,none⟩ (.int .i64 s1.f0)).setCell ⟨g,k * 2+1,none⟩ (.bool s1.f1)).setCell ⟨g,(k+1) * 2,none⟩ (.int .i64 s2.f0)).setCell ⟨g,(k+1) * 2+1,none⟩ (.bool s2.f1)).drew) g N (upd (upd K k s1) (k+1) s2)):=
      ⟨((HA1.out.put (by omega) s1).put (by omega) s2).drew⟩
     have HG3:=Ya (grow_drew (grow_set (grow_set (grow_set (grow_set HG.out (k * 2) (.int .i64 s1.f0)) (k * 2+1) (.bool s1.f1)) ((k+1) * 2) (.int .i64 s2.f0)) ((k+1) * 2+1) (.bool s2.f1)));clear c0 c1 d0 d1 f0 HA1 HG;go_wp2;go_roundw
     case rel=>exact⟨k+1,by omega,by omega,by go_num,⟨_,HA3,HK2⟩,HG3⟩
     case measure=>simp[intOf]<;>omega
    ·have ek:k+1=i:=by omega
     have HA3:Aside0 (Arr wr g N (rotM M a (a+1) i)):=⟨HA1.out.congr fun x _=>by rw[HK.out,ek]⟩;clear HA1 HK;go_wp2
     (try simp only[Exit.inBlock,Exit.then]);refine bodyPost_ret (results_none rfl _ _ _) rfl ?_
     exact⟨rfl,⟨_,HA3.out,mix_wide (rot_mix M (by omega) (by omega)) (Nat.le_refl _) hj,HB.out.2,mix_small (rot_mix M (by omega) hi) (by omega) HSM.out,HB.out.1⟩,HG.out⟩
end H
namespace H
open P
attribute [local irreducible] wpQuiet
set_option maxHeartbeats 2000000 in
set_option maxRecDepth 100000 in
theorem symHi_calls (g N cap:Nat) (M:Nat→S79) (a m:Nat) (w:World) (h:Arr w g N M) (hN:N≤1000000) (hab:a+1<m) (hb:m+1≤N) (hs:Stab M N) (hsm:Small M N) (hle:Le M a m):
  Calls Try.prog 105 #[.slice (some ⟨g,0,none⟩) N cap, .int .i64 (a:Int), .int .i64 (m:Int), .int .i64 ((m:Int)+1), .func (.func 86) #[] #[]] w fun e w'=>e= .returned (.tuple #[])∧(∃ K,Arr w' g N K∧Sorted M K N a (m+1))∧Fr w w' g:=by
 have HA:=Ya h;have HSM:=Ya hsm;have HST:=Ya hs;have HLE:=Ya hle;clear h hs hsm hle;have e1:(m:Int)+1 - (m:Int)=1:=by omega
 have e2:(((m:Int) - (a:Int)) == 1)=false:=by rw[beq_eq_false_iff_ne];omega
 go_enter Try.func105,Try.ntmps105;go_wp2_with fail;go_loopw [14,15] (fun vi vj wr=> ∃ i j:Nat,a≤i∧i≤j∧j≤m∧vi= .int .i64 i∧vj= .int .i64 j∧Aside0 (Arr wr g N M)∧Aside0 (∀ y,a≤y→y<i→(M y).f0≤(M m).f0)∧Aside0 (∀ y,j≤y→y<m→(M m).f0<(M y).f0)∧Aside0 (Fr w wr g)) (fun vi vj _=>(intOf vj).toNat - (intOf vi).toNat)
 case atStart=>exact⟨a,m,Nat.le_refl _,by omega,Nat.le_refl _,rfl,rfl,HA,⟨fun y h1 h2=>by omega⟩,⟨fun y h1 h2=>by omega⟩,⟨grow_refl _ _⟩⟩
 case round=>
  clear HA;obtain⟨i,j,hi,hij,hj,rfl,rfl,HA1,HL,HR,HG⟩:=hrel;by_cases hlt:i<j
  ·obtain⟨c,hc⟩: ∃ c,(i+j) / 2=c:=⟨_,rfl⟩
   have hcz:((i:Int)+(j:Int)) / 2=(c:Int):=by omega
   have b1:=HSM.out c (by omega);have b2:=HSM.out m (by omega);have c0:=HA1.out.q0 (x:=c) (by omega);have c1:=HA1.out.q1 (x:=c) (by omega);have d0:=HA1.out.q0 (x:=m) (by omega);have d1:=HA1.out.q1 (x:=m) (by omega);have z1:(c:Int)<(N:Int):=by omega
   have z2:(m:Int)<(N:Int):=by omega
   go_wp2_with fail;refine wp_region_quiet_below (by kernel_rfl) (by kernel_rfl) ?_;(repeat(quiet_step ((go_at_call 86;exact calls_below_of (cmp_calls (M m) (M c) b2.1 b2.2 b1.1 b1.2 _)))));refine wpQuiet_nil ?_;intro wq hw';obtain⟨⟨wz,hbq⟩,hwq⟩:=hw';subst hwq;have HA2:Aside0 (Arr wq g N M):=⟨HA1.out.below hbq⟩;have HG2:Aside0 (Fr w wq g):=⟨grow_trans HG.out (grow_below hbq)⟩;have HC:=Ya hc;clear c0 c1 d0 d1 HA1 HG hbq hcz hc;have HC2:Aside0 (a≤c∧i≤c∧c<j):=by have:=HC.out;exact⟨by omega,by omega,by omega⟩
   clear HC;by_cases hlc:(M m).f0<(M c).f0
   ·have hcd:(!decide ((M m).f0 - (M c).f0<0))=false:=by rw[Yv (by omega)];rfl
    have HR2:Aside0 (∀ y,c≤y→y<m→(M m).f0<(M y).f0):=⟨fun y h1 h2=>by
     have:=le_le HLE.out (show a≤c by have:=HC2.out;omega) h1 h2;omega⟩
    clear HR hlc b1 b2;rw[hcd];clear hcd;go_wp2_with fail;go_roundw
    case rel=>exact⟨i,c,hi,by have:=HC2.out;omega,by have:=HC2.out;omega,rfl,rfl,HA2,HL,HR2,HG2⟩
    case measure=>have:=HC2.out;simp[intOf]<;>omega
   ·have hcd:(!decide ((M m).f0 - (M c).f0<0))=true:=by rw[Yw (by omega)];rfl
    have HL2:Aside0 (∀ y,a≤y→y<c+1→(M y).f0≤(M m).f0):=⟨fun y h1 h2=>by
     have:=le_le HLE.out h1 (show y≤c by omega) (by have:=HC2.out;omega);omega⟩
    clear HL hlc b1 b2;rw[hcd];clear hcd;go_wp2_with fail;go_roundw
    case rel=>exact⟨c+1,j,by have:=HC2.out;omega,by have:=HC2.out;omega,hj,by go_num,rfl,HA2,HL2,HR,HG2⟩
    case measure=>have:=HC2.out;simp[intOf]<;>omega
  ·have ij:i=j:=by omega
   subst ij;go_wp2_with fail;have HB:Aside0 (Le (rotM M i m (m+1)) a (m+1)∧Stab (rotM M i m (m+1)) N):=⟨rot_one_hi HLE.out hi hj HL.out HR.out,rot_stab HST.out hj (by omega) (by omega) (fun x y h1 h2 h3 h4=>by
    have e:y=m:=by omega
    subst e;exact HR.out x h1 h2)⟩
   clear HL HR HLE HST;obtain⟨wo,rfl⟩: ∃ wo:World,wo=wr:=⟨_,rfl⟩;go_loopw [17] (fun vk wr=> ∃ k:Nat,i≤k∧k≤m∧vk= .int .i64 k∧(∃ K,Aside0 (Arr wr g N K)∧Aside0 (∀ x,K x=rotM M k m (m+1) x))∧Aside0 (Fr w wr g)) (fun vk _=>(intOf vk).toNat)
   case atStart=>exact⟨m,by omega,Nat.le_refl _,rfl,⟨M,HA1,⟨fun x=>(rot_none M (Nat.le_refl _) (by omega) (Or.inl rfl) x).symm⟩⟩,HG⟩
   case round=>
    clear HA1 HG;obtain⟨k1,hk0,hk,rfl,⟨K,HA1,HK⟩,HG⟩:=hrel;by_cases hlt2:i<k1
    ·obtain⟨k,rfl⟩: ∃ k,k1=k+1:=⟨k1 - 1,by omega⟩
     have c0:=HA1.out.cell0 (x:=k+1) (by omega);have c1:=HA1.out.cell1 (x:=k+1) (by omega);have d0:=HA1.out.cell0 (x:=k) (by omega);have d1:=HA1.out.cell1 (x:=k) (by omega);have f0:=HA1.out.free;have hwp:IntKind.i64.wrap (k:Int)=(k:Int):=by rw[IntKind.wrap_i64];omega
     have jz:(k:Int)+1<(N:Int):=by omega
     have jz1:(k:Int)<(N:Int):=by omega
     have p0:(0:Int)≤(k:Int)+1:=by omega
     have e0:((k:Int)+1).toNat=k+1:=by omega
     have g1:(i:Int)<(k:Int)+1:=by omega
     have HK2:Aside0 (∀ x,upd (upd K (k+1) (K k)) k (K (k+1)) x=rotM M k m (m+1) x):=⟨fun x=>by
      rw[sw_put1];have e:K=rotM M (k+1) m (m+1):=funext HK.out;rw[e];exact sw_rot_hi M (by omega) x⟩
     obtain⟨s1,hs1⟩: ∃ s,K (k+1)=s:=⟨_,rfl⟩;obtain⟨s2,hs2⟩: ∃ s,K k=s:=⟨_,rfl⟩;rw[hs1] at c0 c1 HK2;rw[hs2] at d0 d1 HK2;clear HK hs1 hs2;go_wp2;go_region;have HA3:Aside0 (Arr (((((wr.setCell ⟨g,(k+1) * 2,none⟩ (.int .i64 s2.f0)).setCell ⟨g,(k+1) * 2+1,none⟩ (.bool s2.f1)).setCell ⟨g,k * 2,none⟩ (.int .i64 s1.f0)).setCell ⟨g,k * 2+1,none⟩ (.bool s1.f1)).drew) g N (upd (upd K (k+1) s2) k s1)):=
      ⟨((HA1.out.put (by omega) s2).put (by omega) s1).drew⟩
     have HG3:=Ya (grow_drew (grow_set (grow_set (grow_set (grow_set HG.out ((k+1) * 2) (.int .i64 s2.f0)) ((k+1) * 2+1) (.bool s2.f1)) (k * 2) (.int .i64 s1.f0)) (k * 2+1) (.bool s1.f1)));clear c0 c1 d0 d1 f0 HA1 HG;go_wp2;go_roundw
     case rel=>exact⟨k,by omega,by omega,rfl,⟨_,HA3,HK2⟩,HG3⟩
     case measure=>simp[intOf]<;>omega
    ·have ek:k1=i:=by omega
     have HA3:Aside0 (Arr wr g N (rotM M i m (m+1))):=⟨HA1.out.congr fun x _=>by rw[HK.out,ek]⟩;clear HA1 HK;go_wp2
     (try simp only[Exit.inBlock,Exit.then]);refine bodyPost_ret (results_none rfl _ _ _) rfl ?_
     exact⟨rfl,⟨_,HA3.out,mix_wide (rot_mix M hj (by omega)) hi (Nat.le_refl _),HB.out.2,mix_small (rot_mix M hj (by omega)) (by omega) HSM.out,HB.out.1⟩,HG.out⟩
end H
namespace H
open P
attribute [local irreducible] wpQuiet
def Cross (K:Nat→S79) (a mid b:Nat):Prop:= ∀ x y,a≤x→x<mid→mid≤y→y<b→(K x).f0≤(K y).f0
def F1 (M K:Nat→S79) (N a s mid e b:Nat):Prop:=Mix M K a b∧Stab K N∧Small K N∧Le K a s∧Le K s mid∧Le K mid e∧Le K e b∧Cross K a mid b
def F2 (M K:Nat→S79) (N a mid e b:Nat):Prop:=Mix M K a b∧Stab K N∧Small K N∧Le K a mid∧Le K mid e∧Le K e b∧Cross K a mid b
theorem f1_rot {M:Nat→S79} {N a m b mid s e:Nat} (h1:Le M a m) (h2:Le M m b) (has:a≤s) (hsm:s≤m) (hme:m≤e) (heb:e≤b) (hsum:s+e=mid+m) (hsmid:s≤mid) (hmide:mid≤e)
  (hge:a<s→e<b→(M (s - 1)).f0≤(M e).f0) (hlt:s<m→m<e→(M (e - 1)).f0<(M s).f0) (hst:Stab M N) (hsmall:Small M N) (hb:b≤N):F1 M (rotM M s m e) N a s mid e b:=by
 obtain⟨p1,p2,p3,p4,p5,p6⟩:=sym_rot h1 h2 has hsm hme heb hsum hsmid hmide hge hlt hst hb;have hx:=mix_wide (rot_mix M hsm hme) has heb;exact⟨hx,p1,mix_small hx hb hsmall,p2,p3,p4,p5,p6⟩
theorem f2_rec {M K L:Nat→S79} {N a s mid e b:Nat} (h:F1 M K N a s mid e b) (hl:Sorted K L N a mid) (hm:mid≤e) (he:e≤b):F2 M L N a mid e b:=by
 obtain⟨h1,h2,h3,h4,h5,h6,h7,h8⟩:=h;obtain⟨l1,l2,l3,l4⟩:=hl;exact⟨mix_trans h1 (mix_wide l1 (Nat.le_refl _) (by omega)),l2,l3,l4,mix_le l1 (Or.inr (Nat.le_refl _)) h6,mix_le l1 (Or.inr hm) h7,mix_cross h8 (Or.inl l1)⟩
theorem f2_no {M K:Nat→S79} {N a s mid e b:Nat} (h:F1 M K N a s mid e b) (hs:s=a∨s=mid):F2 M K N a mid e b:=by
 obtain⟨h1,h2,h3,h4,h5,h6,h7,h8⟩:=h;refine⟨h1,h2,h3,?_,h6,h7,h8⟩;rcases hs with hs|hs
 ·subst hs;exact h5
 ·subst hs;exact h4
theorem f3_rec {M K L:Nat→S79} {N a mid e b:Nat} (h:F2 M K N a mid e b) (hl:Sorted K L N mid b) (ha:a≤mid):Sorted M L N a b:=by
 obtain⟨h1,h2,h3,h4,h6,h7,h8⟩:=h;obtain⟨l1,l2,l3,l4⟩:=hl;exact⟨mix_trans h1 (mix_wide l1 ha (Nat.le_refl _)),l2,l3,le_join (mix_le l1 (Or.inl (Nat.le_refl _)) h4) l4 (mix_cross h8 (Or.inr l1))⟩
theorem f3_no {M K:Nat→S79} {N a mid e b:Nat} (h:F2 M K N a mid e b) (hs:e=mid∨e=b):Sorted M K N a b:=by
 obtain⟨h1,h2,h3,h4,h6,h7,h8⟩:=h;refine⟨h1,h2,h3,le_join h4 ?_ h8⟩;rcases hs with hs|hs
 ·subst hs;exact h7
 ·subst hs;exact h6
structure Mid (a m b mid s0 r0 p:Nat):Prop where
 lo:2 * mid≤a+b
 hi:a+b<2 * mid+2
 am:a+2≤m
 mb:m+2≤b
 s0a:a≤s0
 r0m:r0≤m
 r0mid:r0≤mid
 s0b:mid+m≤s0+b
 sr:s0≤r0
 p:p+1=mid+m
 s0e:s0=a∨s0+b=mid+m
 r0e:r0=mid∨r0=m
theorem mid_f1 {M:Nat→S79} {N a m b mid s0 r0 p s e:Nat} (H:Mid a m b mid s0 r0 p) (h0:s0≤s) (h1:s≤r0) (hse:s+e=mid+m) (hL: ∀ c,s0≤c→c<s→(M c).f0≤(M (p - c)).f0) (hR: ∀ c,s≤c→c<r0→(M (p - c)).f0<(M c).f0)
  (l1:Le M a m) (l2:Le M m b) (hst:Stab M N) (hsm:Small M N) (hb:b≤N):F1 M (rotM M s m e) N a s mid e b:=by
 obtain⟨q1,q2,q3,q4,q5,q6,q7,q8,q9,q10,q11,q12⟩:=H;refine f1_rot l1 l2 (by omega) (by omega) (by omega) (by omega) hse (by omega) (by omega) (fun k1 k2=> ?_) (fun k1 k2=> ?_) hst hsm hb
 ·have:=hL (s - 1) (by omega) (by omega)
  rwa [show p - (s - 1)=e by omega] at this
 ·have:=hR s (Nat.le_refl _) (by omega)
  rwa [show p - s=e - 1 by omega] at this
theorem mid_left {M:Nat→S79} {a m b mid s0 r0 p c:Nat} (H:Mid a m b mid s0 r0 p) (h0:s0≤c) (h1:c<r0) (l1:Le M a m) (l2:Le M m b) (h:(M c).f0≤(M (p - c)).f0): ∀ x,s0≤x→x<c+1→(M x).f0≤(M (p - x)).f0:=by
 obtain⟨q1,q2,q3,q4,q5,q6,q7,q8,q9,q10,q11,q12⟩:=H;intro x k1 k2;have k3:(M x).f0≤(M c).f0:=le_le l1 (by omega) (by omega) (by omega);have k4:(M (p - c)).f0≤(M (p - x)).f0:=le_le l2 (by omega) (by omega) (by omega);omega
theorem mid_right {M:Nat→S79} {a m b mid s0 r0 p c:Nat} (H:Mid a m b mid s0 r0 p) (h0:s0≤c) (h1:c<r0) (l1:Le M a m) (l2:Le M m b) (h:(M (p - c)).f0<(M c).f0): ∀ x,c≤x→x<r0→(M (p - x)).f0<(M x).f0:=by
 obtain⟨q1,q2,q3,q4,q5,q6,q7,q8,q9,q10,q11,q12⟩:=H;intro x k1 k2;have k3:(M c).f0≤(M x).f0:=le_le l1 (by omega) (by omega) (by omega);have k4:(M (p - x)).f0≤(M (p - c)).f0:=le_le l2 (by omega) (by omega) (by omega);omega
theorem mid_two {a m b mid p:Nat} (h1:(a+b) / 2=mid) (h2:a+2≤m) (h3:m+2≤b) (h4:p+1=mid+m):
  ∃ s0 r0:Nat,Aside0 (Mid a m b mid s0 r0 p)∧((mid<m∧s0+b=mid+m∧r0=mid)∨(¬ mid<m∧s0=a∧r0=m)):=by
 by_cases h:mid<m
 ·exact⟨mid+m - b,mid,⟨by omega,by omega,h2,h3,by omega,by omega,by omega,by omega,by omega,h4,Or.inr (by omega),Or.inl rfl⟩,Or.inl ⟨h,by omega,rfl⟩⟩
 ·exact⟨a,m,⟨by omega,by omega,h2,h3,by omega,by omega,by omega,by omega,by omega,h4,Or.inl rfl,Or.inr rfl⟩,Or.inr ⟨h,rfl,rfl⟩⟩
def SymOk (g N cap:Nat) (d:Nat):Prop:= ∀ (M:Nat→S79) (a m b:Nat) (w:World),b≤a+d→Arr w g N M→a<m→m<b→b≤N→Stab M N→Small M N→Le M a m→Le M m b→
  Calls Try.prog 105 #[.slice (some ⟨g,0,none⟩) N cap, .int .i64 (a:Int), .int .i64 (m:Int), .int .i64 (b:Int), .func (.func 86) #[] #[]] w fun e w'=>e= .returned (.tuple #[])∧(∃ K,Arr w' g N K∧Sorted M K N a b)∧Fr w w' g
set_option maxHeartbeats 4000000 in
set_option maxRecDepth 100000 in
theorem symMid_calls (g N cap d:Nat) (ih:SymOk g N cap d) (M:Nat→S79) (a m b:Nat) (w:World) (hd:b≤a+d+1) (h:Arr w g N M) (hN:N≤1000000) (ham:a+2≤m) (hmb:m+2≤b) (hb:b≤N) (hs:Stab M N) (hsm:Small M N) (hl1:Le M a m) (hl2:Le M m b):
  Calls Try.prog 105 #[.slice (some ⟨g,0,none⟩) N cap, .int .i64 (a:Int), .int .i64 (m:Int), .int .i64 (b:Int), .func (.func 86) #[] #[]] w fun e w'=>e= .returned (.tuple #[])∧(∃ K,Arr w' g N K∧Sorted M K N a b)∧Fr w w' g:=by
 obtain⟨mid,hmid⟩: ∃ mid,(a+b) / 2=mid:=⟨_,rfl⟩;obtain⟨p,hp⟩: ∃ p,p+1=mid+m:=⟨mid+m - 1,by omega⟩;obtain⟨s0,r0,HM,hor⟩:=mid_two hmid ham hmb hp;have HA:=Ya h;have HSM:=Ya hsm;have HST:=Ya hs;have HL1:=Ya hl1;have HL2:=Ya hl2;have IH:=Ya ih;clear h hs hsm hl1 hl2 ih;have hmz:((a:Int)+(b:Int)) / 2=(mid:Int):=by omega
 have hpz:(mid:Int)+(m:Int) - 1=(p:Int):=by omega
 have e1:(((b:Int) - (m:Int)) == 1)=false:=by rw[beq_eq_false_iff_ne];omega
 have e2:(((m:Int) - (a:Int)) == 1)=false:=by rw[beq_eq_false_iff_ne];omega
 have bp:p<2000000:=by omega
 have bmid:mid≤1000000:=by omega
 clear hmid;go_enter Try.func105,Try.ntmps105;rcases hor with ⟨hc,hs0,hr0⟩|⟨hc,hs0,hr0⟩
 ·have hcb:decide ((mid:Int)<(m:Int))=true:=Yv (by omega)
  have hsz:(mid:Int)+(m:Int) - (b:Int)=(s0:Int):=by omega
  go_wp2_with fail;go_loopw [20,21] (fun vs vr wr=> ∃ s r:Nat,s0≤s∧s≤r∧r≤r0∧vs= .int .i64 s∧vr= .int .i64 r∧Aside0 (Arr wr g N M)∧Aside0 (∀ c,s0≤c→c<s→(M c).f0≤(M (p - c)).f0)∧Aside0 (∀ c,r≤c→c<r0→(M (p - c)).f0<(M c).f0)∧Aside0 (Fr w wr g)) (fun vs vr _=>(intOf vr).toNat - (intOf vs).toNat)
  case atStart=>exact⟨s0,r0,Nat.le_refl _,HM.out.sr,Nat.le_refl _,by first|rfl|rw[hs0],by rw[hr0],HA,⟨fun y h1 h2=>by omega⟩,⟨fun y h1 h2=>by omega⟩,⟨grow_refl _ _⟩⟩
  case round=>
   clear HA;obtain⟨s,r,hsr0,hsr,hrr,rfl,rfl,HA1,HL,HR,HG⟩:=hrel;by_cases hlt:s<r
   ·obtain⟨c,hcq⟩: ∃ c,(s+r) / 2=c:=⟨_,rfl⟩
    have hcz:((s:Int)+(r:Int)) / 2=(c:Int):=by omega
    have HB:Aside0 (s≤c∧c<r∧s0≤c∧c<r0∧c<N∧p - c<N∧c≤p):=by
     obtain⟨q1,q2,q3,q4,q5,q6,q7,q8,q9,q10,q11,q12⟩:=HM.out;exact⟨by omega,by omega,by omega,by omega,by omega,by omega,by omega⟩
    have bc:c<N:=HB.out.2.2.2.2.1;obtain⟨q,hq⟩: ∃ q,p - c=q:=⟨_,rfl⟩;have hqz:(p:Int) - (c:Int)=(q:Int):=by have:=HB.out;omega
    have hwp:IntKind.i64.wrap (q:Int)=(q:Int):=by have:=HB.out;rw[IntKind.wrap_i64];omega
    have b1:=HSM.out c HB.out.2.2.2.2.1;have b2:=HSM.out q (by have:=HB.out;omega);have c0:=HA1.out.q0 (x:=c) HB.out.2.2.2.2.1;have c1:=HA1.out.q1 (x:=c) HB.out.2.2.2.2.1;have d0:=HA1.out.q0 (x:=q) (by have:=HB.out;omega);have d1:=HA1.out.q1 (x:=q) (by have:=HB.out;omega);have z1:(c:Int)<(N:Int):=by have:=HB.out;omega
    have z2:(q:Int)<(N:Int):=by have:=HB.out;omega
    have HQ:=Ya hq;clear hcq hq;go_wp2_with fail;refine wp_region_quiet_below (by kernel_rfl) (by kernel_rfl) ?_;(repeat(quiet_step ((go_at_call 86;exact calls_below_of (cmp_calls (M q) (M c) b2.1 b2.2 b1.1 b1.2 _)))));refine wpQuiet_nil ?_;intro wq hw';obtain⟨⟨wz,hbq⟩,hwq⟩:=hw';subst hwq;have HA2:Aside0 (Arr wq g N M):=⟨HA1.out.below hbq⟩;have HG2:Aside0 (Fr w wq g):=⟨grow_trans HG.out (grow_below hbq)⟩;clear c0 c1 d0 d1 HA1 HG hbq hcz z1 z2 hqz;by_cases hlc:(M q).f0<(M c).f0
    ·have hcd:(!decide ((M q).f0 - (M c).f0<0))=false:=by rw[Yv (by omega)];rfl
     have HR2:Aside0 (∀ y,c≤y→y<r0→(M (p - y)).f0<(M y).f0):=⟨mid_right HM.out HB.out.2.2.1 HB.out.2.2.2.1 HL1.out HL2.out (by rw[HQ.out];exact hlc)⟩;clear HR hlc b1 b2;rw[hcd];clear hcd;go_wp2_with fail;go_roundw
     case rel=>exact⟨s,c,hsr0,HB.out.1,by have:=HB.out;omega,rfl,rfl,HA2,HL,HR2,HG2⟩
     case measure=>have:=HB.out;simp[intOf]<;>omega
    ·have hcd:(!decide ((M q).f0 - (M c).f0<0))=true:=by rw[Yw (by omega)];rfl
     have HL2':Aside0 (∀ y,s0≤y→y<c+1→(M y).f0≤(M (p - y)).f0):=⟨mid_left HM.out HB.out.2.2.1 HB.out.2.2.2.1 HL1.out HL2.out (by rw[HQ.out];omega)⟩;clear HL hlc b1 b2;rw[hcd];clear hcd;go_wp2_with fail;go_roundw
     case rel=>exact⟨c+1,r,by have:=HB.out;omega,by have:=HB.out;omega,hrr,by go_num,rfl,HA2,HL2',HR,HG2⟩
     case measure=>have:=HB.out;simp[intOf]<;>omega
   ·have er:s=r:=by omega
    subst er;obtain⟨e,he⟩: ∃ e,s+e=mid+m:=⟨mid+m - s,by have:=HM.out.r0m;omega⟩;have hez:(mid:Int)+(m:Int) - (s:Int)=(e:Int):=by omega
    have HF:Aside0 (F1 M (rotM M s m e) N a s mid e b):=⟨mid_f1 HM.out hsr0 hrr he HL.out HR.out HL1.out HL2.out HST.out HSM.out hb⟩;have b1:a≤s:=by have:=HM.out.s0a;omega
    have b2:s≤mid:=by have:=HM.out.r0mid;omega
    have b3:s≤m:=by have:=HM.out.r0m;omega
    have b4:m≤e:=by omega
    have b5:mid≤e:=by omega
    have b6:e≤b:=by have:=HM.out.s0b;omega
    have b7:a+2≤mid+1:=by have:=HM.out.hi;omega
    have b8:mid+2≤b:=by have:=HM.out.lo;omega
    clear HL HR HL1 HL2 HST HSM hlt he hsr hsr0 hrr;by_cases c1:s<m
    ·have hb1:decide ((s:Int)<(m:Int))=true:=Yv (by omega)
     by_cases c2:m<e
     ·have hb2:decide ((m:Int)<(e:Int))=true:=Yv (by omega)
      go_wp2_with fail;refine(rotate_calls g N cap M s m e _ _ HA1.out hN c1 c2 (by omega)).mono ?_;rintro e3 w3 ⟨rfl,ha3,hg3⟩;have HA3:=Ya ha3;have HG3:Aside0 (Fr w w3 g):=⟨grow_trans HG.out hg3⟩;clear ha3 hg3 HA1 HG;obtain⟨K,hK⟩: ∃ K,K=rotM M s m e:=⟨_,rfl⟩;rw[← hK] at HA3 HF;clear hK;by_cases c3:a<s
      ·have hb3:decide ((a:Int)<(s:Int))=true:=Yv (by omega)
       by_cases c4:s<mid
       ·have hb4:decide ((s:Int)<(mid:Int))=true:=Yv (by omega)
        go_wp2_with fail;refine(IH.out K a s mid _ (by omega) HA3.out c3 c4 (by omega) HF.out.2.1 HF.out.2.2.1 HF.out.2.2.2.1 HF.out.2.2.2.2.1).mono ?_;rintro e4 w4 ⟨rfl,⟨K2,ha4,hk4⟩,hg4⟩;have HA4:=Ya ha4;have HF2:Aside0 (F2 M K2 N a mid e b):=⟨f2_rec HF.out hk4 b5 b6⟩;have HG4:Aside0 (Fr w w4 g):=⟨grow_trans HG3.out hg4⟩;clear ha4 hk4 hg4 HA3 HF HG3;by_cases c5:mid<e
        ·have hb5:decide ((mid:Int)<(e:Int))=true:=Yv (by omega)
         by_cases c6:e<b
         ·have hb6:decide ((e:Int)<(b:Int))=true:=Yv (by omega)
          go_wp2_with fail;refine(IH.out K2 mid e b _ (by omega) HA4.out c5 c6 hb HF2.out.2.1 HF2.out.2.2.1 HF2.out.2.2.2.2.1 HF2.out.2.2.2.2.2.1).mono ?_;rintro e5 w5 ⟨rfl,⟨K3,ha5,hk5⟩,hg5⟩;have HA5:=Ya ha5;have HS5:Aside0 (Sorted M K3 N a b):=⟨f3_rec HF2.out hk5 (by omega)⟩;have HG5:Aside0 (Fr w w5 g):=⟨grow_trans HG4.out hg5⟩;clear ha5 hk5 hg5 HA4 HF2 HG4;go_wp2_with fail;go_end0;exact⟨rfl,⟨K3,HA5.out,HS5.out⟩,HG5.out⟩
         ·have hb6:decide ((e:Int)<(b:Int))=false:=Yw (by omega)
          have HS5:Aside0 (Sorted M K2 N a b):=⟨f3_no HF2.out (Or.inr (by omega))⟩;clear HF2;go_wp2_with fail;go_end0;exact⟨rfl,⟨K2,HA4.out,HS5.out⟩,HG4.out⟩
        ·have hb5:decide ((mid:Int)<(e:Int))=false:=Yw (by omega)
         have HS5:Aside0 (Sorted M K2 N a b):=⟨f3_no HF2.out (Or.inl (by omega))⟩;clear HF2;go_wp2_with fail;go_end0;exact⟨rfl,⟨K2,HA4.out,HS5.out⟩,HG4.out⟩
       ·have hb4:decide ((s:Int)<(mid:Int))=false:=Yw (by omega)
        have HF2:Aside0 (F2 M K N a mid e b):=⟨f2_no HF.out (Or.inr (by omega))⟩;have HA4:=HA3;have HG4:=HG3;obtain⟨K2,rfl⟩: ∃ K2,K2=K:=⟨K,rfl⟩;clear HF HA3 HG3;by_cases c5:mid<e
        ·have hb5:decide ((mid:Int)<(e:Int))=true:=Yv (by omega)
         by_cases c6:e<b
         ·have hb6:decide ((e:Int)<(b:Int))=true:=Yv (by omega)
          go_wp2_with fail;refine(IH.out K2 mid e b _ (by omega) HA4.out c5 c6 hb HF2.out.2.1 HF2.out.2.2.1 HF2.out.2.2.2.2.1 HF2.out.2.2.2.2.2.1).mono ?_;rintro e5 w5 ⟨rfl,⟨K3,ha5,hk5⟩,hg5⟩;have HA5:=Ya ha5;have HS5:Aside0 (Sorted M K3 N a b):=⟨f3_rec HF2.out hk5 (by omega)⟩;have HG5:Aside0 (Fr w w5 g):=⟨grow_trans HG4.out hg5⟩;clear ha5 hk5 hg5 HA4 HF2 HG4;go_wp2_with fail;go_end0;exact⟨rfl,⟨K3,HA5.out,HS5.out⟩,HG5.out⟩
         ·have hb6:decide ((e:Int)<(b:Int))=false:=Yw (by omega)
          have HS5:Aside0 (Sorted M K2 N a b):=⟨f3_no HF2.out (Or.inr (by omega))⟩;clear HF2;go_wp2_with fail;go_end0;exact⟨rfl,⟨K2,HA4.out,HS5.out⟩,HG4.out⟩
        ·have hb5:decide ((mid:Int)<(e:Int))=false:=Yw (by omega)
         have HS5:Aside0 (Sorted M K2 N a b):=⟨f3_no HF2.out (Or.inl (by omega))⟩;clear HF2;go_wp2_with fail;go_end0;exact⟨rfl,⟨K2,HA4.out,HS5.out⟩,HG4.out⟩
      ·have hb3:decide ((a:Int)<(s:Int))=false:=Yw (by omega)
       have HF2:Aside0 (F2 M K N a mid e b):=⟨f2_no HF.out (Or.inl (by omega))⟩;have HA4:=HA3;have HG4:=HG3;obtain⟨K2,rfl⟩: ∃ K2,K2=K:=⟨K,rfl⟩;clear HF HA3 HG3;by_cases c5:mid<e
       ·have hb5:decide ((mid:Int)<(e:Int))=true:=Yv (by omega)
        by_cases c6:e<b
        ·have hb6:decide ((e:Int)<(b:Int))=true:=Yv (by omega)
         go_wp2_with fail;refine(IH.out K2 mid e b _ (by omega) HA4.out c5 c6 hb HF2.out.2.1 HF2.out.2.2.1 HF2.out.2.2.2.2.1 HF2.out.2.2.2.2.2.1).mono ?_;rintro e5 w5 ⟨rfl,⟨K3,ha5,hk5⟩,hg5⟩;have HA5:=Ya ha5;have HS5:Aside0 (Sorted M K3 N a b):=⟨f3_rec HF2.out hk5 (by omega)⟩;have HG5:Aside0 (Fr w w5 g):=⟨grow_trans HG4.out hg5⟩;clear ha5 hk5 hg5 HA4 HF2 HG4;go_wp2_with fail;go_end0;exact⟨rfl,⟨K3,HA5.out,HS5.out⟩,HG5.out⟩
        ·have hb6:decide ((e:Int)<(b:Int))=false:=Yw (by omega)
         have HS5:Aside0 (Sorted M K2 N a b):=⟨f3_no HF2.out (Or.inr (by omega))⟩;clear HF2;go_wp2_with fail;go_end0;exact⟨rfl,⟨K2,HA4.out,HS5.out⟩,HG4.out⟩
       ·have hb5:decide ((mid:Int)<(e:Int))=false:=Yw (by omega)
        have HS5:Aside0 (Sorted M K2 N a b):=⟨f3_no HF2.out (Or.inl (by omega))⟩;clear HF2;go_wp2_with fail;go_end0;exact⟨rfl,⟨K2,HA4.out,HS5.out⟩,HG4.out⟩
     ·have hb2:decide ((m:Int)<(e:Int))=false:=Yw (by omega)
      have HA3:Aside0 (Arr wr g N (rotM M s m e)):=⟨HA1.out.congr fun x _=>rot_none M (by omega) (by omega) (Or.inr (by omega)) x⟩;have HG3:=HG;clear HA1 HG;obtain⟨K,hK⟩: ∃ K,K=rotM M s m e:=⟨_,rfl⟩;rw[← hK] at HA3 HF;clear hK;by_cases c3:a<s
      ·have hb3:decide ((a:Int)<(s:Int))=true:=Yv (by omega)
       by_cases c4:s<mid
       ·have hb4:decide ((s:Int)<(mid:Int))=true:=Yv (by omega)
        go_wp2_with fail;refine(IH.out K a s mid _ (by omega) HA3.out c3 c4 (by omega) HF.out.2.1 HF.out.2.2.1 HF.out.2.2.2.1 HF.out.2.2.2.2.1).mono ?_;rintro e4 w4 ⟨rfl,⟨K2,ha4,hk4⟩,hg4⟩;have HA4:=Ya ha4;have HF2:Aside0 (F2 M K2 N a mid e b):=⟨f2_rec HF.out hk4 b5 b6⟩;have HG4:Aside0 (Fr w w4 g):=⟨grow_trans HG3.out hg4⟩;clear ha4 hk4 hg4 HA3 HF HG3;by_cases c5:mid<e
        ·have hb5:decide ((mid:Int)<(e:Int))=true:=Yv (by omega)
         by_cases c6:e<b
         ·have hb6:decide ((e:Int)<(b:Int))=true:=Yv (by omega)
          go_wp2_with fail;refine(IH.out K2 mid e b _ (by omega) HA4.out c5 c6 hb HF2.out.2.1 HF2.out.2.2.1 HF2.out.2.2.2.2.1 HF2.out.2.2.2.2.2.1).mono ?_;rintro e5 w5 ⟨rfl,⟨K3,ha5,hk5⟩,hg5⟩;have HA5:=Ya ha5;have HS5:Aside0 (Sorted M K3 N a b):=⟨f3_rec HF2.out hk5 (by omega)⟩;have HG5:Aside0 (Fr w w5 g):=⟨grow_trans HG4.out hg5⟩;clear ha5 hk5 hg5 HA4 HF2 HG4;go_wp2_with fail;go_end0;exact⟨rfl,⟨K3,HA5.out,HS5.out⟩,HG5.out⟩
         ·have hb6:decide ((e:Int)<(b:Int))=false:=Yw (by omega)
          have HS5:Aside0 (Sorted M K2 N a b):=⟨f3_no HF2.out (Or.inr (by omega))⟩;clear HF2;go_wp2_with fail;go_end0;exact⟨rfl,⟨K2,HA4.out,HS5.out⟩,HG4.out⟩
        ·have hb5:decide ((mid:Int)<(e:Int))=false:=Yw (by omega)
         have HS5:Aside0 (Sorted M K2 N a b):=⟨f3_no HF2.out (Or.inl (by omega))⟩;clear HF2;go_wp2_with fail;go_end0;exact⟨rfl,⟨K2,HA4.out,HS5.out⟩,HG4.out⟩
       ·have hb4:decide ((s:Int)<(mid:Int))=false:=Yw (by omega)
        have HF2:Aside0 (F2 M K N a mid e b):=⟨f2_no HF.out (Or.inr (by omega))⟩;have HA4:=HA3;have HG4:=HG3;obtain⟨K2,rfl⟩: ∃ K2,K2=K:=⟨K,rfl⟩;clear HF HA3 HG3;by_cases c5:mid<e
        ·have hb5:decide ((mid:Int)<(e:Int))=true:=Yv (by omega)
         by_cases c6:e<b
         ·have hb6:decide ((e:Int)<(b:Int))=true:=Yv (by omega)
          go_wp2_with fail;refine(IH.out K2 mid e b _ (by omega) HA4.out c5 c6 hb HF2.out.2.1 HF2.out.2.2.1 HF2.out.2.2.2.2.1 HF2.out.2.2.2.2.2.1).mono ?_;rintro e5 w5 ⟨rfl,⟨K3,ha5,hk5⟩,hg5⟩;have HA5:=Ya ha5;have HS5:Aside0 (Sorted M K3 N a b):=⟨f3_rec HF2.out hk5 (by omega)⟩;have HG5:Aside0 (Fr w w5 g):=⟨grow_trans HG4.out hg5⟩;clear ha5 hk5 hg5 HA4 HF2 HG4;go_wp2_with fail;go_end0;exact⟨rfl,⟨K3,HA5.out,HS5.out⟩,HG5.out⟩
         ·have hb6:decide ((e:Int)<(b:Int))=false:=Yw (by omega)
          have HS5:Aside0 (Sorted M K2 N a b):=⟨f3_no HF2.out (Or.inr (by omega))⟩;clear HF2;go_wp2_with fail;go_end0;exact⟨rfl,⟨K2,HA4.out,HS5.out⟩,HG4.out⟩
        ·have hb5:decide ((mid:Int)<(e:Int))=false:=Yw (by omega)
         have HS5:Aside0 (Sorted M K2 N a b):=⟨f3_no HF2.out (Or.inl (by omega))⟩;clear HF2;go_wp2_with fail;go_end0;exact⟨rfl,⟨K2,HA4.out,HS5.out⟩,HG4.out⟩
      ·have hb3:decide ((a:Int)<(s:Int))=false:=Yw (by omega)
       have HF2:Aside0 (F2 M K N a mid e b):=⟨f2_no HF.out (Or.inl (by omega))⟩;have HA4:=HA3;have HG4:=HG3;obtain⟨K2,rfl⟩: ∃ K2,K2=K:=⟨K,rfl⟩;clear HF HA3 HG3;by_cases c5:mid<e
       ·have hb5:decide ((mid:Int)<(e:Int))=true:=Yv (by omega)
        by_cases c6:e<b
        ·have hb6:decide ((e:Int)<(b:Int))=true:=Yv (by omega)
         go_wp2_with fail;refine(IH.out K2 mid e b _ (by omega) HA4.out c5 c6 hb HF2.out.2.1 HF2.out.2.2.1 HF2.out.2.2.2.2.1 HF2.out.2.2.2.2.2.1).mono ?_;rintro e5 w5 ⟨rfl,⟨K3,ha5,hk5⟩,hg5⟩;have HA5:=Ya ha5;have HS5:Aside0 (Sorted M K3 N a b):=⟨f3_rec HF2.out hk5 (by omega)⟩;have HG5:Aside0 (Fr w w5 g):=⟨grow_trans HG4.out hg5⟩;clear ha5 hk5 hg5 HA4 HF2 HG4;go_wp2_with fail;go_end0;exact⟨rfl,⟨K3,HA5.out,HS5.out⟩,HG5.out⟩
        ·have hb6:decide ((e:Int)<(b:Int))=false:=Yw (by omega)
         have HS5:Aside0 (Sorted M K2 N a b):=⟨f3_no HF2.out (Or.inr (by omega))⟩;clear HF2;go_wp2_with fail;go_end0;exact⟨rfl,⟨K2,HA4.out,HS5.out⟩,HG4.out⟩
       ·have hb5:decide ((mid:Int)<(e:Int))=false:=Yw (by omega)
        have HS5:Aside0 (Sorted M K2 N a b):=⟨f3_no HF2.out (Or.inl (by omega))⟩;clear HF2;go_wp2_with fail;go_end0;exact⟨rfl,⟨K2,HA4.out,HS5.out⟩,HG4.out⟩
    ·have hb1:decide ((s:Int)<(m:Int))=false:=Yw (by omega)
     have HA3:Aside0 (Arr wr g N (rotM M s m e)):=⟨HA1.out.congr fun x _=>rot_none M (by omega) (by omega) (Or.inl (by omega)) x⟩;have HG3:=HG;clear HA1 HG;obtain⟨K,hK⟩: ∃ K,K=rotM M s m e:=⟨_,rfl⟩;rw[← hK] at HA3 HF;clear hK;by_cases c3:a<s
     ·have hb3:decide ((a:Int)<(s:Int))=true:=Yv (by omega)
      by_cases c4:s<mid
      ·have hb4:decide ((s:Int)<(mid:Int))=true:=Yv (by omega)
       go_wp2_with fail;refine(IH.out K a s mid _ (by omega) HA3.out c3 c4 (by omega) HF.out.2.1 HF.out.2.2.1 HF.out.2.2.2.1 HF.out.2.2.2.2.1).mono ?_;rintro e4 w4 ⟨rfl,⟨K2,ha4,hk4⟩,hg4⟩;have HA4:=Ya ha4;have HF2:Aside0 (F2 M K2 N a mid e b):=⟨f2_rec HF.out hk4 b5 b6⟩;have HG4:Aside0 (Fr w w4 g):=⟨grow_trans HG3.out hg4⟩;clear ha4 hk4 hg4 HA3 HF HG3;by_cases c5:mid<e
       ·have hb5:decide ((mid:Int)<(e:Int))=true:=Yv (by omega)
        by_cases c6:e<b
        ·have hb6:decide ((e:Int)<(b:Int))=true:=Yv (by omega)
         go_wp2_with fail;refine(IH.out K2 mid e b _ (by omega) HA4.out c5 c6 hb HF2.out.2.1 HF2.out.2.2.1 HF2.out.2.2.2.2.1 HF2.out.2.2.2.2.2.1).mono ?_;rintro e5 w5 ⟨rfl,⟨K3,ha5,hk5⟩,hg5⟩;have HA5:=Ya ha5;have HS5:Aside0 (Sorted M K3 N a b):=⟨f3_rec HF2.out hk5 (by omega)⟩;have HG5:Aside0 (Fr w w5 g):=⟨grow_trans HG4.out hg5⟩;clear ha5 hk5 hg5 HA4 HF2 HG4;go_wp2_with fail;go_end0;exact⟨rfl,⟨K3,HA5.out,HS5.out⟩,HG5.out⟩
        ·have hb6:decide ((e:Int)<(b:Int))=false:=Yw (by omega)
         have HS5:Aside0 (Sorted M K2 N a b):=⟨f3_no HF2.out (Or.inr (by omega))⟩;clear HF2;go_wp2_with fail;go_end0;exact⟨rfl,⟨K2,HA4.out,HS5.out⟩,HG4.out⟩
       ·have hb5:decide ((mid:Int)<(e:Int))=false:=Yw (by omega)
        have HS5:Aside0 (Sorted M K2 N a b):=⟨f3_no HF2.out (Or.inl (by omega))⟩;clear HF2;go_wp2_with fail;go_end0;exact⟨rfl,⟨K2,HA4.out,HS5.out⟩,HG4.out⟩
      ·have hb4:decide ((s:Int)<(mid:Int))=false:=Yw (by omega)
       have HF2:Aside0 (F2 M K N a mid e b):=⟨f2_no HF.out (Or.inr (by omega))⟩;have HA4:=HA3;have HG4:=HG3;obtain⟨K2,rfl⟩: ∃ K2,K2=K:=⟨K,rfl⟩;clear HF HA3 HG3;by_cases c5:mid<e
       ·have hb5:decide ((mid:Int)<(e:Int))=true:=Yv (by omega)
        by_cases c6:e<b
        ·have hb6:decide ((e:Int)<(b:Int))=true:=Yv (by omega)
         go_wp2_with fail;refine(IH.out K2 mid e b _ (by omega) HA4.out c5 c6 hb HF2.out.2.1 HF2.out.2.2.1 HF2.out.2.2.2.2.1 HF2.out.2.2.2.2.2.1).mono ?_;rintro e5 w5 ⟨rfl,⟨K3,ha5,hk5⟩,hg5⟩;have HA5:=Ya ha5;have HS5:Aside0 (Sorted M K3 N a b):=⟨f3_rec HF2.out hk5 (by omega)⟩;have HG5:Aside0 (Fr w w5 g):=⟨grow_trans HG4.out hg5⟩;clear ha5 hk5 hg5 HA4 HF2 HG4;go_wp2_with fail;go_end0;exact⟨rfl,⟨K3,HA5.out,HS5.out⟩,HG5.out⟩
        ·have hb6:decide ((e:Int)<(b:Int))=false:=Yw (by omega)
         have HS5:Aside0 (Sorted M K2 N a b):=⟨f3_no HF2.out (Or.inr (by omega))⟩;clear HF2;go_wp2_with fail;go_end0;exact⟨rfl,⟨K2,HA4.out,HS5.out⟩,HG4.out⟩
       ·have hb5:decide ((mid:Int)<(e:Int))=false:=Yw (by omega)
        have HS5:Aside0 (Sorted M K2 N a b):=⟨f3_no HF2.out (Or.inl (by omega))⟩;clear HF2;go_wp2_with fail;go_end0;exact⟨rfl,⟨K2,HA4.out,HS5.out⟩,HG4.out⟩
     ·have hb3:decide ((a:Int)<(s:Int))=false:=Yw (by omega)
      have HF2:Aside0 (F2 M K N a mid e b):=⟨f2_no HF.out (Or.inl (by omega))⟩;have HA4:=HA3;have HG4:=HG3;obtain⟨K2,rfl⟩: ∃ K2,K2=K:=⟨K,rfl⟩;clear HF HA3 HG3;by_cases c5:mid<e
      ·have hb5:decide ((mid:Int)<(e:Int))=true:=Yv (by omega)
       by_cases c6:e<b
       ·have hb6:decide ((e:Int)<(b:Int))=true:=Yv (by omega)
        go_wp2_with fail;refine(IH.out K2 mid e b _ (by omega) HA4.out c5 c6 hb HF2.out.2.1 HF2.out.2.2.1 HF2.out.2.2.2.2.1 HF2.out.2.2.2.2.2.1).mono ?_;rintro e5 w5 ⟨rfl,⟨K3,ha5,hk5⟩,hg5⟩;have HA5:=Ya ha5;have HS5:Aside0 (Sorted M K3 N a b):=⟨f3_rec HF2.out hk5 (by omega)⟩;have HG5:Aside0 (Fr w w5 g):=⟨grow_trans HG4.out hg5⟩;clear ha5 hk5 hg5 HA4 HF2 HG4;go_wp2_with fail;go_end0;exact⟨rfl,⟨K3,HA5.out,HS5.out⟩,HG5.out⟩
       ·have hb6:decide ((e:Int)<(b:Int))=false:=Yw (by omega)
        have HS5:Aside0 (Sorted M K2 N a b):=⟨f3_no HF2.out (Or.inr (by omega))⟩;clear HF2;go_wp2_with fail;go_end0;exact⟨rfl,⟨K2,HA4.out,HS5.out⟩,HG4.out⟩
      ·have hb5:decide ((mid:Int)<(e:Int))=false:=Yw (by omega)
       have HS5:Aside0 (Sorted M K2 N a b):=⟨f3_no HF2.out (Or.inl (by omega))⟩;clear HF2;go_wp2_with fail;go_end0;exact⟨rfl,⟨K2,HA4.out,HS5.out⟩,HG4.out⟩
 ·have hcb:decide ((mid:Int)<(m:Int))=false:=Yw (by omega)
  go_wp2_with fail;go_loopw [20,21] (fun vs vr wr=> ∃ s r:Nat,s0≤s∧s≤r∧r≤r0∧vs= .int .i64 s∧vr= .int .i64 r∧Aside0 (Arr wr g N M)∧Aside0 (∀ c,s0≤c→c<s→(M c).f0≤(M (p - c)).f0)∧Aside0 (∀ c,r≤c→c<r0→(M (p - c)).f0<(M c).f0)∧Aside0 (Fr w wr g)) (fun vs vr _=>(intOf vr).toNat - (intOf vs).toNat)
  case atStart=>exact⟨s0,r0,Nat.le_refl _,HM.out.sr,Nat.le_refl _,by first|rfl|rw[hs0],by rw[hr0],HA,⟨fun y h1 h2=>by omega⟩,⟨fun y h1 h2=>by omega⟩,⟨grow_refl _ _⟩⟩
  case round=>
   clear HA;obtain⟨s,r,hsr0,hsr,hrr,rfl,rfl,HA1,HL,HR,HG⟩:=hrel;by_cases hlt:s<r
   ·obtain⟨c,hcq⟩: ∃ c,(s+r) / 2=c:=⟨_,rfl⟩
    have hcz:((s:Int)+(r:Int)) / 2=(c:Int):=by omega
    have HB:Aside0 (s≤c∧c<r∧s0≤c∧c<r0∧c<N∧p - c<N∧c≤p):=by
     obtain⟨q1,q2,q3,q4,q5,q6,q7,q8,q9,q10,q11,q12⟩:=HM.out;exact⟨by omega,by omega,by omega,by omega,by omega,by omega,by omega⟩
    have bc:c<N:=HB.out.2.2.2.2.1;obtain⟨q,hq⟩: ∃ q,p - c=q:=⟨_,rfl⟩;have hqz:(p:Int) - (c:Int)=(q:Int):=by have:=HB.out;omega
    have hwp:IntKind.i64.wrap (q:Int)=(q:Int):=by have:=HB.out;rw[IntKind.wrap_i64];omega
    have b1:=HSM.out c HB.out.2.2.2.2.1;have b2:=HSM.out q (by have:=HB.out;omega);have c0:=HA1.out.q0 (x:=c) HB.out.2.2.2.2.1;have c1:=HA1.out.q1 (x:=c) HB.out.2.2.2.2.1;have d0:=HA1.out.q0 (x:=q) (by have:=HB.out;omega);have d1:=HA1.out.q1 (x:=q) (by have:=HB.out;omega);have z1:(c:Int)<(N:Int):=by have:=HB.out;omega
    have z2:(q:Int)<(N:Int):=by have:=HB.out;omega
    have HQ:=Ya hq;clear hcq hq;go_wp2_with fail;refine wp_region_quiet_below (by kernel_rfl) (by kernel_rfl) ?_;(repeat(quiet_step ((go_at_call 86;exact calls_below_of (cmp_calls (M q) (M c) b2.1 b2.2 b1.1 b1.2 _)))));refine wpQuiet_nil ?_;intro wq hw';obtain⟨⟨wz,hbq⟩,hwq⟩:=hw';subst hwq;have HA2:Aside0 (Arr wq g N M):=⟨HA1.out.below hbq⟩;have HG2:Aside0 (Fr w wq g):=⟨grow_trans HG.out (grow_below hbq)⟩;clear c0 c1 d0 d1 HA1 HG hbq hcz z1 z2 hqz;by_cases hlc:(M q).f0<(M c).f0
    ·have hcd:(!decide ((M q).f0 - (M c).f0<0))=false:=by rw[Yv (by omega)];rfl
     have HR2:Aside0 (∀ y,c≤y→y<r0→(M (p - y)).f0<(M y).f0):=⟨mid_right HM.out HB.out.2.2.1 HB.out.2.2.2.1 HL1.out HL2.out (by rw[HQ.out];exact hlc)⟩;clear HR hlc b1 b2;rw[hcd];clear hcd;go_wp2_with fail;go_roundw
     case rel=>exact⟨s,c,hsr0,HB.out.1,by have:=HB.out;omega,rfl,rfl,HA2,HL,HR2,HG2⟩
     case measure=>have:=HB.out;simp[intOf]<;>omega
    ·have hcd:(!decide ((M q).f0 - (M c).f0<0))=true:=by rw[Yw (by omega)];rfl
     have HL2':Aside0 (∀ y,s0≤y→y<c+1→(M y).f0≤(M (p - y)).f0):=⟨mid_left HM.out HB.out.2.2.1 HB.out.2.2.2.1 HL1.out HL2.out (by rw[HQ.out];omega)⟩;clear HL hlc b1 b2;rw[hcd];clear hcd;go_wp2_with fail;go_roundw
     case rel=>exact⟨c+1,r,by have:=HB.out;omega,by have:=HB.out;omega,hrr,by go_num,rfl,HA2,HL2',HR,HG2⟩
     case measure=>have:=HB.out;simp[intOf]<;>omega
   ·have er:s=r:=by omega
    subst er;obtain⟨e,he⟩: ∃ e,s+e=mid+m:=⟨mid+m - s,by have:=HM.out.r0m;omega⟩;have hez:(mid:Int)+(m:Int) - (s:Int)=(e:Int):=by omega
    have HF:Aside0 (F1 M (rotM M s m e) N a s mid e b):=⟨mid_f1 HM.out hsr0 hrr he HL.out HR.out HL1.out HL2.out HST.out HSM.out hb⟩;have b1:a≤s:=by have:=HM.out.s0a;omega
    have b2:s≤mid:=by have:=HM.out.r0mid;omega
    have b3:s≤m:=by have:=HM.out.r0m;omega
    have b4:m≤e:=by omega
    have b5:mid≤e:=by omega
    have b6:e≤b:=by have:=HM.out.s0b;omega
    have b7:a+2≤mid+1:=by have:=HM.out.hi;omega
    have b8:mid+2≤b:=by have:=HM.out.lo;omega
    clear HL HR HL1 HL2 HST HSM hlt he hsr hsr0 hrr;by_cases c1:s<m
    ·have hb1:decide ((s:Int)<(m:Int))=true:=Yv (by omega)
     by_cases c2:m<e
     ·have hb2:decide ((m:Int)<(e:Int))=true:=Yv (by omega)
      go_wp2_with fail;refine(rotate_calls g N cap M s m e _ _ HA1.out hN c1 c2 (by omega)).mono ?_;rintro e3 w3 ⟨rfl,ha3,hg3⟩;have HA3:=Ya ha3;have HG3:Aside0 (Fr w w3 g):=⟨grow_trans HG.out hg3⟩;clear ha3 hg3 HA1 HG;obtain⟨K,hK⟩: ∃ K,K=rotM M s m e:=⟨_,rfl⟩;rw[← hK] at HA3 HF;clear hK;by_cases c3:a<s
      ·have hb3:decide ((a:Int)<(s:Int))=true:=Yv (by omega)
       by_cases c4:s<mid
       ·have hb4:decide ((s:Int)<(mid:Int))=true:=Yv (by omega)
        go_wp2_with fail;refine(IH.out K a s mid _ (by omega) HA3.out c3 c4 (by omega) HF.out.2.1 HF.out.2.2.1 HF.out.2.2.2.1 HF.out.2.2.2.2.1).mono ?_;rintro e4 w4 ⟨rfl,⟨K2,ha4,hk4⟩,hg4⟩;have HA4:=Ya ha4;have HF2:Aside0 (F2 M K2 N a mid e b):=⟨f2_rec HF.out hk4 b5 b6⟩;have HG4:Aside0 (Fr w w4 g):=⟨grow_trans HG3.out hg4⟩;clear ha4 hk4 hg4 HA3 HF HG3;by_cases c5:mid<e
        ·have hb5:decide ((mid:Int)<(e:Int))=true:=Yv (by omega)
         by_cases c6:e<b
         ·have hb6:decide ((e:Int)<(b:Int))=true:=Yv (by omega)
          go_wp2_with fail;refine(IH.out K2 mid e b _ (by omega) HA4.out c5 c6 hb HF2.out.2.1 HF2.out.2.2.1 HF2.out.2.2.2.2.1 HF2.out.2.2.2.2.2.1).mono ?_;rintro e5 w5 ⟨rfl,⟨K3,ha5,hk5⟩,hg5⟩;have HA5:=Ya ha5;have HS5:Aside0 (Sorted M K3 N a b):=⟨f3_rec HF2.out hk5 (by omega)⟩;have HG5:Aside0 (Fr w w5 g):=⟨grow_trans HG4.out hg5⟩;clear ha5 hk5 hg5 HA4 HF2 HG4;go_wp2_with fail;go_end0;exact⟨rfl,⟨K3,HA5.out,HS5.out⟩,HG5.out⟩
         ·have hb6:decide ((e:Int)<(b:Int))=false:=Yw (by omega)
          have HS5:Aside0 (Sorted M K2 N a b):=⟨f3_no HF2.out (Or.inr (by omega))⟩;clear HF2;go_wp2_with fail;go_end0;exact⟨rfl,⟨K2,HA4.out,HS5.out⟩,HG4.out⟩
        ·have hb5:decide ((mid:Int)<(e:Int))=false:=Yw (by omega)
         have HS5:Aside0 (Sorted M K2 N a b):=⟨f3_no HF2.out (Or.inl (by omega))⟩;clear HF2;go_wp2_with fail;go_end0;exact⟨rfl,⟨K2,HA4.out,HS5.out⟩,HG4.out⟩
       ·have hb4:decide ((s:Int)<(mid:Int))=false:=Yw (by omega)
        have HF2:Aside0 (F2 M K N a mid e b):=⟨f2_no HF.out (Or.inr (by omega))⟩;have HA4:=HA3;have HG4:=HG3;obtain⟨K2,rfl⟩: ∃ K2,K2=K:=⟨K,rfl⟩;clear HF HA3 HG3;by_cases c5:mid<e
        ·have hb5:decide ((mid:Int)<(e:Int))=true:=Yv (by omega)
         by_cases c6:e<b
         ·have hb6:decide ((e:Int)<(b:Int))=true:=Yv (by omega)
          go_wp2_with fail;refine(IH.out K2 mid e b _ (by omega) HA4.out c5 c6 hb HF2.out.2.1 HF2.out.2.2.1 HF2.out.2.2.2.2.1 HF2.out.2.2.2.2.2.1).mono ?_;rintro e5 w5 ⟨rfl,⟨K3,ha5,hk5⟩,hg5⟩;have HA5:=Ya ha5;have HS5:Aside0 (Sorted M K3 N a b):=⟨f3_rec HF2.out hk5 (by omega)⟩;have HG5:Aside0 (Fr w w5 g):=⟨grow_trans HG4.out hg5⟩;clear ha5 hk5 hg5 HA4 HF2 HG4;go_wp2_with fail;go_end0;exact⟨rfl,⟨K3,HA5.out,HS5.out⟩,HG5.out⟩
         ·have hb6:decide ((e:Int)<(b:Int))=false:=Yw (by omega)
          have HS5:Aside0 (Sorted M K2 N a b):=⟨f3_no HF2.out (Or.inr (by omega))⟩;clear HF2;go_wp2_with fail;go_end0;exact⟨rfl,⟨K2,HA4.out,HS5.out⟩,HG4.out⟩
        ·have hb5:decide ((mid:Int)<(e:Int))=false:=Yw (by omega)
         have HS5:Aside0 (Sorted M K2 N a b):=⟨f3_no HF2.out (Or.inl (by omega))⟩;clear HF2;go_wp2_with fail;go_end0;exact⟨rfl,⟨K2,HA4.out,HS5.out⟩,HG4.out⟩
      ·have hb3:decide ((a:Int)<(s:Int))=false:=Yw (by omega)
       have HF2:Aside0 (F2 M K N a mid e b):=⟨f2_no HF.out (Or.inl (by omega))⟩;have HA4:=HA3;have HG4:=HG3;obtain⟨K2,rfl⟩: ∃ K2,K2=K:=⟨K,rfl⟩;clear HF HA3 HG3;by_cases c5:mid<e
       ·have hb5:decide ((mid:Int)<(e:Int))=true:=Yv (by omega)
        by_cases c6:e<b
        ·have hb6:decide ((e:Int)<(b:Int))=true:=Yv (by omega)
         go_wp2_with fail;refine(IH.out K2 mid e b _ (by omega) HA4.out c5 c6 hb HF2.out.2.1 HF2.out.2.2.1 HF2.out.2.2.2.2.1 HF2.out.2.2.2.2.2.1).mono ?_;rintro e5 w5 ⟨rfl,⟨K3,ha5,hk5⟩,hg5⟩;have HA5:=Ya ha5;have HS5:Aside0 (Sorted M K3 N a b):=⟨f3_rec HF2.out hk5 (by omega)⟩;have HG5:Aside0 (Fr w w5 g):=⟨grow_trans HG4.out hg5⟩;clear ha5 hk5 hg5 HA4 HF2 HG4;go_wp2_with fail;go_end0;exact⟨rfl,⟨K3,HA5.out,HS5.out⟩,HG5.out⟩
        ·have hb6:decide ((e:Int)<(b:Int))=false:=Yw (by omega)
         have HS5:Aside0 (Sorted M K2 N a b):=⟨f3_no HF2.out (Or.inr (by omega))⟩;clear HF2;go_wp2_with fail;go_end0;exact⟨rfl,⟨K2,HA4.out,HS5.out⟩,HG4.out⟩
       ·have hb5:decide ((mid:Int)<(e:Int))=false:=Yw (by omega)
        have HS5:Aside0 (Sorted M K2 N a b):=⟨f3_no HF2.out (Or.inl (by omega))⟩;clear HF2;go_wp2_with fail;go_end0;exact⟨rfl,⟨K2,HA4.out,HS5.out⟩,HG4.out⟩
     ·have hb2:decide ((m:Int)<(e:Int))=false:=Yw (by omega)
      have HA3:Aside0 (Arr wr g N (rotM M s m e)):=⟨HA1.out.congr fun x _=>rot_none M (by omega) (by omega) (Or.inr (by omega)) x⟩;have HG3:=HG;clear HA1 HG;obtain⟨K,hK⟩: ∃ K,K=rotM M s m e:=⟨_,rfl⟩;rw[← hK] at HA3 HF;clear hK;by_cases c3:a<s
      ·have hb3:decide ((a:Int)<(s:Int))=true:=Yv (by omega)
       by_cases c4:s<mid
       ·have hb4:decide ((s:Int)<(mid:Int))=true:=Yv (by omega)
        go_wp2_with fail;refine(IH.out K a s mid _ (by omega) HA3.out c3 c4 (by omega) HF.out.2.1 HF.out.2.2.1 HF.out.2.2.2.1 HF.out.2.2.2.2.1).mono ?_;rintro e4 w4 ⟨rfl,⟨K2,ha4,hk4⟩,hg4⟩;have HA4:=Ya ha4;have HF2:Aside0 (F2 M K2 N a mid e b):=⟨f2_rec HF.out hk4 b5 b6⟩;have HG4:Aside0 (Fr w w4 g):=⟨grow_trans HG3.out hg4⟩;clear ha4 hk4 hg4 HA3 HF HG3;by_cases c5:mid<e
        ·have hb5:decide ((mid:Int)<(e:Int))=true:=Yv (by omega)
         by_cases c6:e<b
         ·have hb6:decide ((e:Int)<(b:Int))=true:=Yv (by omega)
          go_wp2_with fail;refine(IH.out K2 mid e b _ (by omega) HA4.out c5 c6 hb HF2.out.2.1 HF2.out.2.2.1 HF2.out.2.2.2.2.1 HF2.out.2.2.2.2.2.1).mono ?_;rintro e5 w5 ⟨rfl,⟨K3,ha5,hk5⟩,hg5⟩;have HA5:=Ya ha5;have HS5:Aside0 (Sorted M K3 N a b):=⟨f3_rec HF2.out hk5 (by omega)⟩;have HG5:Aside0 (Fr w w5 g):=⟨grow_trans HG4.out hg5⟩;clear ha5 hk5 hg5 HA4 HF2 HG4;go_wp2_with fail;go_end0;exact⟨rfl,⟨K3,HA5.out,HS5.out⟩,HG5.out⟩
         ·have hb6:decide ((e:Int)<(b:Int))=false:=Yw (by omega)
          have HS5:Aside0 (Sorted M K2 N a b):=⟨f3_no HF2.out (Or.inr (by omega))⟩;clear HF2;go_wp2_with fail;go_end0;exact⟨rfl,⟨K2,HA4.out,HS5.out⟩,HG4.out⟩
        ·have hb5:decide ((mid:Int)<(e:Int))=false:=Yw (by omega)
         have HS5:Aside0 (Sorted M K2 N a b):=⟨f3_no HF2.out (Or.inl (by omega))⟩;clear HF2;go_wp2_with fail;go_end0;exact⟨rfl,⟨K2,HA4.out,HS5.out⟩,HG4.out⟩
       ·have hb4:decide ((s:Int)<(mid:Int))=false:=Yw (by omega)
        have HF2:Aside0 (F2 M K N a mid e b):=⟨f2_no HF.out (Or.inr (by omega))⟩;have HA4:=HA3;have HG4:=HG3;obtain⟨K2,rfl⟩: ∃ K2,K2=K:=⟨K,rfl⟩;clear HF HA3 HG3;by_cases c5:mid<e
        ·have hb5:decide ((mid:Int)<(e:Int))=true:=Yv (by omega)
         by_cases c6:e<b
         ·have hb6:decide ((e:Int)<(b:Int))=true:=Yv (by omega)
          go_wp2_with fail;refine(IH.out K2 mid e b _ (by omega) HA4.out c5 c6 hb HF2.out.2.1 HF2.out.2.2.1 HF2.out.2.2.2.2.1 HF2.out.2.2.2.2.2.1).mono ?_;rintro e5 w5 ⟨rfl,⟨K3,ha5,hk5⟩,hg5⟩;have HA5:=Ya ha5;have HS5:Aside0 (Sorted M K3 N a b):=⟨f3_rec HF2.out hk5 (by omega)⟩;have HG5:Aside0 (Fr w w5 g):=⟨grow_trans HG4.out hg5⟩;clear ha5 hk5 hg5 HA4 HF2 HG4;go_wp2_with fail;go_end0;exact⟨rfl,⟨K3,HA5.out,HS5.out⟩,HG5.out⟩
         ·have hb6:decide ((e:Int)<(b:Int))=false:=Yw (by omega)
          have HS5:Aside0 (Sorted M K2 N a b):=⟨f3_no HF2.out (Or.inr (by omega))⟩;clear HF2;go_wp2_with fail;go_end0;exact⟨rfl,⟨K2,HA4.out,HS5.out⟩,HG4.out⟩
        ·have hb5:decide ((mid:Int)<(e:Int))=false:=Yw (by omega)
         have HS5:Aside0 (Sorted M K2 N a b):=⟨f3_no HF2.out (Or.inl (by omega))⟩;clear HF2;go_wp2_with fail;go_end0;exact⟨rfl,⟨K2,HA4.out,HS5.out⟩,HG4.out⟩
      ·have hb3:decide ((a:Int)<(s:Int))=false:=Yw (by omega)
       have HF2:Aside0 (F2 M K N a mid e b):=⟨f2_no HF.out (Or.inl (by omega))⟩;have HA4:=HA3;have HG4:=HG3;obtain⟨K2,rfl⟩: ∃ K2,K2=K:=⟨K,rfl⟩;clear HF HA3 HG3;by_cases c5:mid<e
       ·have hb5:decide ((mid:Int)<(e:Int))=true:=Yv (by omega)
        by_cases c6:e<b
        ·have hb6:decide ((e:Int)<(b:Int))=true:=Yv (by omega)
         go_wp2_with fail;refine(IH.out K2 mid e b _ (by omega) HA4.out c5 c6 hb HF2.out.2.1 HF2.out.2.2.1 HF2.out.2.2.2.2.1 HF2.out.2.2.2.2.2.1).mono ?_;rintro e5 w5 ⟨rfl,⟨K3,ha5,hk5⟩,hg5⟩;have HA5:=Ya ha5;have HS5:Aside0 (Sorted M K3 N a b):=⟨f3_rec HF2.out hk5 (by omega)⟩;have HG5:Aside0 (Fr w w5 g):=⟨grow_trans HG4.out hg5⟩;clear ha5 hk5 hg5 HA4 HF2 HG4;go_wp2_with fail;go_end0;exact⟨rfl,⟨K3,HA5.out,HS5.out⟩,HG5.out⟩
        ·have hb6:decide ((e:Int)<(b:Int))=false:=Yw (by omega)
         have HS5:Aside0 (Sorted M K2 N a b):=⟨f3_no HF2.out (Or.inr (by omega))⟩;clear HF2;go_wp2_with fail;go_end0;exact⟨rfl,⟨K2,HA4.out,HS5.out⟩,HG4.out⟩
       ·have hb5:decide ((mid:Int)<(e:Int))=false:=Yw (by omega)
        have HS5:Aside0 (Sorted M K2 N a b):=⟨f3_no HF2.out (Or.inl (by omega))⟩;clear HF2;go_wp2_with fail;go_end0;exact⟨rfl,⟨K2,HA4.out,HS5.out⟩,HG4.out⟩
    ·have hb1:decide ((s:Int)<(m:Int))=false:=Yw (by omega)
     have HA3:Aside0 (Arr wr g N (rotM M s m e)):=⟨HA1.out.congr fun x _=>rot_none M (by omega) (by omega) (Or.inl (by omega)) x⟩;have HG3:=HG;clear HA1 HG;obtain⟨K,hK⟩: ∃ K,K=rotM M s m e:=⟨_,rfl⟩;rw[← hK] at HA3 HF;clear hK;by_cases c3:a<s
     ·have hb3:decide ((a:Int)<(s:Int))=true:=Yv (by omega)
      by_cases c4:s<mid
      ·have hb4:decide ((s:Int)<(mid:Int))=true:=Yv (by omega)
       go_wp2_with fail;refine(IH.out K a s mid _ (by omega) HA3.out c3 c4 (by omega) HF.out.2.1 HF.out.2.2.1 HF.out.2.2.2.1 HF.out.2.2.2.2.1).mono ?_;rintro e4 w4 ⟨rfl,⟨K2,ha4,hk4⟩,hg4⟩;have HA4:=Ya ha4;have HF2:Aside0 (F2 M K2 N a mid e b):=⟨f2_rec HF.out hk4 b5 b6⟩;have HG4:Aside0 (Fr w w4 g):=⟨grow_trans HG3.out hg4⟩;clear ha4 hk4 hg4 HA3 HF HG3;by_cases c5:mid<e
       ·have hb5:decide ((mid:Int)<(e:Int))=true:=Yv (by omega)
        by_cases c6:e<b
        ·have hb6:decide ((e:Int)<(b:Int))=true:=Yv (by omega)
         go_wp2_with fail;refine(IH.out K2 mid e b _ (by omega) HA4.out c5 c6 hb HF2.out.2.1 HF2.out.2.2.1 HF2.out.2.2.2.2.1 HF2.out.2.2.2.2.2.1).mono ?_;rintro e5 w5 ⟨rfl,⟨K3,ha5,hk5⟩,hg5⟩;have HA5:=Ya ha5;have HS5:Aside0 (Sorted M K3 N a b):=⟨f3_rec HF2.out hk5 (by omega)⟩;have HG5:Aside0 (Fr w w5 g):=⟨grow_trans HG4.out hg5⟩;clear ha5 hk5 hg5 HA4 HF2 HG4;go_wp2_with fail;go_end0;exact⟨rfl,⟨K3,HA5.out,HS5.out⟩,HG5.out⟩
        ·have hb6:decide ((e:Int)<(b:Int))=false:=Yw (by omega)
         have HS5:Aside0 (Sorted M K2 N a b):=⟨f3_no HF2.out (Or.inr (by omega))⟩;clear HF2;go_wp2_with fail;go_end0;exact⟨rfl,⟨K2,HA4.out,HS5.out⟩,HG4.out⟩
       ·have hb5:decide ((mid:Int)<(e:Int))=false:=Yw (by omega)
        have HS5:Aside0 (Sorted M K2 N a b):=⟨f3_no HF2.out (Or.inl (by omega))⟩;clear HF2;go_wp2_with fail;go_end0;exact⟨rfl,⟨K2,HA4.out,HS5.out⟩,HG4.out⟩
      ·have hb4:decide ((s:Int)<(mid:Int))=false:=Yw (by omega)
       have HF2:Aside0 (F2 M K N a mid e b):=⟨f2_no HF.out (Or.inr (by omega))⟩;have HA4:=HA3;have HG4:=HG3;obtain⟨K2,rfl⟩: ∃ K2,K2=K:=⟨K,rfl⟩;clear HF HA3 HG3;by_cases c5:mid<e
       ·have hb5:decide ((mid:Int)<(e:Int))=true:=Yv (by omega)
        by_cases c6:e<b
        ·have hb6:decide ((e:Int)<(b:Int))=true:=Yv (by omega)
         go_wp2_with fail;refine(IH.out K2 mid e b _ (by omega) HA4.out c5 c6 hb HF2.out.2.1 HF2.out.2.2.1 HF2.out.2.2.2.2.1 HF2.out.2.2.2.2.2.1).mono ?_;rintro e5 w5 ⟨rfl,⟨K3,ha5,hk5⟩,hg5⟩;have HA5:=Ya ha5;have HS5:Aside0 (Sorted M K3 N a b):=⟨f3_rec HF2.out hk5 (by omega)⟩;have HG5:Aside0 (Fr w w5 g):=⟨grow_trans HG4.out hg5⟩;clear ha5 hk5 hg5 HA4 HF2 HG4;go_wp2_with fail;go_end0;exact⟨rfl,⟨K3,HA5.out,HS5.out⟩,HG5.out⟩
        ·have hb6:decide ((e:Int)<(b:Int))=false:=Yw (by omega)
         have HS5:Aside0 (Sorted M K2 N a b):=⟨f3_no HF2.out (Or.inr (by omega))⟩;clear HF2;go_wp2_with fail;go_end0;exact⟨rfl,⟨K2,HA4.out,HS5.out⟩,HG4.out⟩
       ·have hb5:decide ((mid:Int)<(e:Int))=false:=Yw (by omega)
        have HS5:Aside0 (Sorted M K2 N a b):=⟨f3_no HF2.out (Or.inl (by omega))⟩;clear HF2;go_wp2_with fail;go_end0;exact⟨rfl,⟨K2,HA4.out,HS5.out⟩,HG4.out⟩
     ·have hb3:decide ((a:Int)<(s:Int))=false:=Yw (by omega)
      have HF2:Aside0 (F2 M K N a mid e b):=⟨f2_no HF.out (Or.inl (by omega))⟩;have HA4:=HA3;have HG4:=HG3;obtain⟨K2,rfl⟩: ∃ K2,K2=K:=⟨K,rfl⟩;clear HF HA3 HG3;by_cases c5:mid<e
      ·have hb5:decide ((mid:Int)<(e:Int))=true:=Yv (by omega)
       by_cases c6:e<b
       ·have hb6:decide ((e:Int)<(b:Int))=true:=Yv (by omega)
        go_wp2_with fail;refine(IH.out K2 mid e b _ (by omega) HA4.out c5 c6 hb HF2.out.2.1 HF2.out.2.2.1 HF2.out.2.2.2.2.1 HF2.out.2.2.2.2.2.1).mono ?_;rintro e5 w5 ⟨rfl,⟨K3,ha5,hk5⟩,hg5⟩;have HA5:=Ya ha5;have HS5:Aside0 (Sorted M K3 N a b):=⟨f3_rec HF2.out hk5 (by omega)⟩;have HG5:Aside0 (Fr w w5 g):=⟨grow_trans HG4.out hg5⟩;clear ha5 hk5 hg5 HA4 HF2 HG4;go_wp2_with fail;go_end0;exact⟨rfl,⟨K3,HA5.out,HS5.out⟩,HG5.out⟩
       ·have hb6:decide ((e:Int)<(b:Int))=false:=Yw (by omega)
        have HS5:Aside0 (Sorted M K2 N a b):=⟨f3_no HF2.out (Or.inr (by omega))⟩;clear HF2;go_wp2_with fail;go_end0;exact⟨rfl,⟨K2,HA4.out,HS5.out⟩,HG4.out⟩
      ·have hb5:decide ((mid:Int)<(e:Int))=false:=Yw (by omega)
       have HS5:Aside0 (Sorted M K2 N a b):=⟨f3_no HF2.out (Or.inl (by omega))⟩;clear HF2;go_wp2_with fail;go_end0;exact⟨rfl,⟨K2,HA4.out,HS5.out⟩,HG4.out⟩
theorem sym_ok (g N cap:Nat) (hN:N≤1000000): ∀ d,SymOk g N cap d
 |0=>fun M a m b w hd h h1 h2 hb hs hsm l1 l2=>by omega
 |d+1=>fun M a m b w hd h h1 h2 hb hs hsm l1 l2=>by
  by_cases e1:m=a+1
  ·subst e1
   have:=symLo_calls g N cap M a b w h hN h2 hb hs hsm l2;exact this
  ·by_cases e2:b=m+1
   ·subst e2
    have:=symHi_calls g N cap M a m w h hN (by omega) hb hs hsm l1;exact this
   ·exact symMid_calls g N cap d (sym_ok g N cap hN d) M a m b w hd h hN (by omega) (by omega) hb hs hsm l1 l2
end H
namespace H
open P
def Blk (K:Nat→S79) (bs lo hi:Nat):Prop:= ∀ t i j,t * bs+lo≤i→i<j→j<t * bs+bs+lo→j<hi→(K i).f0≤(K j).f0
theorem blk_shift {K:Nat→S79} {bs lo hi:Nat} (h:Blk K bs lo hi):Blk K bs (lo+bs) hi:=fun t i j h1 h2 h3 h4=>by
 have e:(t+1) * bs=t * bs+bs:=Nat.succ_mul t bs;exact h (t+1) i j (by omega) h2 (by omega) h4
theorem blk_head {K:Nat→S79} {bs lo hi c:Nat} (h:Blk K bs lo hi) (h1:c≤lo+bs) (h2:c≤hi):Le K lo c:=fun i j k1 k2 k3=>h 0 i j (by omega) k2 (by omega) (by omega)
theorem blk_snoc {K:Nat→S79} {bs a c k:Nat} (h:Blk K bs 0 a) (ha:a=k * bs) (hl:Le K a c):Blk K bs 0 c:=fun t i j h1 h2 h3 h4=>by
 by_cases e1:j<a
 ·exact h t i j h1 h2 h3 e1
 ·by_cases e2:a≤i
  ·exact hl i j e2 h2 h4
  ·exfalso
   have e:(t+1) * bs=t * bs+bs:=Nat.succ_mul t bs;have l1:t * bs<k * bs:=by omega
   have l2:k * bs<(t+1) * bs:=by omega
   have:=Nat.lt_of_mul_lt_mul_right l1;have:=Nat.lt_of_mul_lt_mul_right l2;omega
theorem blk_mix {K L:Nat→S79} {bs lo hi c d:Nat} (h:Blk K bs lo hi) (hm:Mix K L c d) (hd:hi≤c∨d≤lo):Blk L bs lo hi:=fun t i j h1 h2 h3 h4=>by
 rw[hm.1 i (by omega),hm.1 j (by omega)];exact h t i j h1 h2 h3 h4
theorem blk_nil (K:Nat→S79) (bs lo:Nat):Blk K bs lo lo:=fun t i j h1 h2 h3 h4=>by omega
def Base3 (M K:Nat→S79) (N:Nat):Prop:=Mix M K 0 N∧Stab K N∧Small K N
theorem base_more {M K L:Nat→S79} {N a b:Nat} (h:Base3 M K N) (hl:Sorted K L N a b) (hb:b≤N):Base3 M L N:=⟨mix_trans h.1 (mix_wide hl.1 (Nat.zero_le _) hb),hl.2.1,hl.2.2.1⟩
set_option maxHeartbeats 2000000 in
set_option maxRecDepth 100000 in
theorem stable_calls (g N cap:Nat) (M:Nat→S79) (w:World) (h:Arr w g N M) (hN:N≤1000000) (hs:Stab M N) (hsm:Small M N):
  Calls Try.prog 98 #[.slice (some ⟨g,0,none⟩) N cap, .int .i64 (N:Int), .func (.func 86) #[] #[]] w fun e w'=>e= .returned (.tuple #[])∧(∃ K,Arr w' g N K∧Sorted M K N 0 N)∧Fr w w' g:=by
 have HA:=Ya h;have HB:=Ya (show Base3 M M N from⟨mix_refl _ _ _,hs,hsm⟩);clear h hs hsm;go_enter Try.func98,Try.ntmps98;go_wp2_with fail;go_loopw [7,8] (fun va vb wr=> ∃ a:Nat,a≤N∧va= .int .i64 a∧vb= .int .i64 ((a:Int)+20)∧(∃ k,Aside0 (a=k * 20))∧(∃ K,Aside0 (Arr wr g N K)∧Aside0 (Base3 M K N)∧Aside0 (Blk K 20 0 a))∧Aside0 (Fr w wr g)) (fun va _ _=>N+1 - (intOf va).toNat)
 case atStart=>exact⟨0,by omega,by go_num,by go_num,⟨0,⟨rfl⟩⟩,⟨M,HA,HB,⟨blk_nil _ _ _⟩⟩,⟨grow_refl _ _⟩⟩
 case round=>
  clear HA HB;obtain⟨a,haN,rfl,rfl,⟨k,hk⟩,⟨K,HA1,HB1,HK⟩,HG⟩:=hrel;by_cases hlt:a+20≤N
  ·have hz:(a:Int)+20=((a+20:Nat):Int):=by omega
   have hcb:decide (((a+20:Nat):Int)≤(N:Int))=true:=Yv (by omega);rw[hz];clear hz;go_wp2_with fail;refine(insertion_calls g N cap K a (a+20) _ HA1.out hN (by omega) hlt HB1.out.2.1 HB1.out.2.2).mono ?_;rintro e1 w1 ⟨rfl,⟨K1,ha1,hk1⟩,hg1⟩;have HA2:=Ya ha1;have HB2:Aside0 (Base3 M K1 N):=⟨base_more HB1.out hk1 hlt⟩;have HK2:Aside0 (Blk K1 20 0 (a+20)):=⟨blk_snoc (blk_mix HK.out hk1.1 (Or.inl (Nat.le_refl _))) hk.out hk1.2.2.2⟩;have HG2:Aside0 (Fr w w1 g):=⟨grow_trans HG.out hg1⟩;have hk2:Aside0 (a+20=(k+1) * 20):=by have:=hk.out;exact⟨by omega⟩
   clear ha1 hk1 hg1 HA1 HB1 HK HG hk;go_wp2_with fail;go_roundw
   case rel=>exact⟨a+20,hlt,rfl,by go_num,⟨k+1,hk2⟩,⟨K1,HA2,HB2,HK2⟩,HG2⟩
   case measure=>simp[intOf]<;>omega
  ·have hcb:decide ((a:Int)+20≤(N:Int))=false:=Yw (by omega)
   go_wp2_with fail;refine(insertion_calls g N cap K a N _ HA1.out hN haN (Nat.le_refl _) HB1.out.2.1 HB1.out.2.2).mono ?_;rintro e1 w1 ⟨rfl,⟨K1,ha1,hk1⟩,hg1⟩;have HA2:=Ya ha1;have HB2:Aside0 (Base3 M K1 N):=⟨base_more HB1.out hk1 (Nat.le_refl _)⟩;have HK2:Aside0 (Blk K1 20 0 N):=⟨blk_snoc (blk_mix HK.out hk1.1 (Or.inl (Nat.le_refl _))) hk.out hk1.2.2.2⟩;have HG2:Aside0 (Fr w w1 g):=⟨grow_trans HG.out hg1⟩;clear ha1 hk1 hg1 HA1 HB1 HK HG hk hcb;go_wp2_with fail;go_loopw [6] (fun vs wr=> ∃ s:Nat,0<s∧s≤2000020∧vs= .int .i64 s∧(∃ K,Aside0 (Arr wr g N K)∧Aside0 (Base3 M K N)∧Aside0 (Blk K s 0 N))∧Aside0 (Fr w wr g)) (fun vs _=>N - (intOf vs).toNat)
   case atStart=>exact⟨20,by omega,by omega,by go_num,⟨K1,HA2,HB2,HK2⟩,HG2⟩
   case round=>
    clear HA2 HB2 HK2 HG2;obtain⟨s,hs0,hs1,rfl,⟨K,HA1,HB1,HK⟩,HG⟩:=hrel;by_cases hsn:s<N
    ·obtain⟨s2,hs2⟩: ∃ s2,2 * s=s2:=⟨_,rfl⟩
     have hz:(2:Int) * (s:Int)=(s2:Int):=by omega
     have hz3:(s:Int) * 2=(s2:Int):=by omega
     have bs2:s2≤2000000:=by omega
     have hcs:decide ((s:Int)<(N:Int))=true:=Yv (by omega);have HS:=Ya hs2;have HK0:Aside0 (Blk K s2 0 0∧Blk K s 0 N):=⟨blk_nil _ _ _,HK.out⟩;clear HK hs2;go_wp2_with fail;obtain⟨wo,rfl⟩: ∃ wo:World,wo=wr:=⟨_,rfl⟩;go_loopw [7,8] (fun va vb wr=> ∃ a b:Nat,a≤N∧va= .int .i64 a∧vb= .int .i64 b∧Aside0 (a+s2=b)∧(∃ k,Aside0 (a=k * s2))∧(∃ K,Aside0 (Arr wr g N K)∧Aside0 (Base3 M K N)∧Aside0 (Blk K s2 0 a∧Blk K s a N))∧Aside0 (Fr w wr g)) (fun va _ _=>N+1 - (intOf va).toNat)
     case atStart=>exact⟨0,s2,by omega,by go_num,rfl,⟨by omega⟩,⟨0,⟨by omega⟩⟩,⟨K,HA1,HB1,HK0⟩,HG⟩
     case round=>
      clear HA1 HB1 HK0 HG;obtain⟨a,b,haN,rfl,rfl,HBB,⟨k,hk⟩,⟨K,HA1,HB1,HK⟩,HG⟩:=hrel;obtain⟨m,hm⟩: ∃ m,a+s=m:=⟨_,rfl⟩;have hz2:(a:Int)+(s:Int)=(m:Int):=by omega
      have HM:=Ya hm;clear hm;by_cases hlt:b≤N
      ·have hcb:decide ((b:Int)≤(N:Int))=true:=Yv (by omega)
       go_wp2_with fail;refine(sym_ok g N cap hN N K a m b _ (by omega) HA1.out (by have:=HM.out;omega) (by have:=HM.out;have:=HBB.out;have:=HS.out;omega) hlt HB1.out.2.1 HB1.out.2.2 (blk_head HK.out.2 (by have:=HM.out;omega) (by have:=HM.out;have:=HBB.out;have:=HS.out;omega)) (blk_head (by rw[← HM.out];exact blk_shift HK.out.2) (by have:=HM.out;have:=HBB.out;have:=HS.out;omega) hlt)).mono ?_;rintro e1 w1 ⟨rfl,⟨K1,ha1,hk1⟩,hg1⟩;have HA2:=Ya ha1;have HB2:Aside0 (Base3 M K1 N):=⟨base_more HB1.out hk1 hlt⟩;have HK2:Aside0 (Blk K1 s2 0 b∧Blk K1 s b N):=⟨blk_snoc (blk_mix HK.out.1 hk1.1 (Or.inl (Nat.le_refl _))) hk.out hk1.2.2.2,blk_mix (by rw[show b=a+s+s by have:=HBB.out;have:=HS.out;omega];exact blk_shift (blk_shift HK.out.2)) hk1.1 (Or.inr (Nat.le_refl _))⟩;have HG2:Aside0 (Fr w w1 g):=⟨grow_trans HG.out hg1⟩;have hk2:Aside0 (b=(k+1) * s2):=⟨by rw[Nat.succ_mul, ← hk.out,HBB.out]⟩;have hlb:Aside0 (a<b):=⟨by have:=HBB.out;have:=HS.out;omega⟩;clear ha1 hk1 hg1 HA1 HB1 HK HG hk HBB HM;go_wp2_with fail;go_roundw
       case rel=>exact⟨b,b+s2,hlt,rfl,by rw[Int.natCast_add],⟨rfl⟩,⟨k+1,hk2⟩,⟨K1,HA2,HB2,HK2⟩,HG2⟩
       case measure=>have:=hlb.out;simp[intOf]<;>omega
      ·have hcb:decide ((b:Int)≤(N:Int))=false:=Yw (by omega)
       have hsp:Aside0 (0<s2∧s<s2):=⟨by have:=HS.out;omega⟩;by_cases hmn:m<N
       ·have hcm:decide ((m:Int)<(N:Int))=true:=Yv (by omega)
        go_wp2_with fail;refine(sym_ok g N cap hN N K a m N _ (by omega) HA1.out (by have:=HM.out;omega) hmn (Nat.le_refl _) HB1.out.2.1 HB1.out.2.2 (blk_head HK.out.2 (by have:=HM.out;omega) (by omega)) (blk_head (by rw[← HM.out];exact blk_shift HK.out.2) (by have:=HM.out;have:=HBB.out;have:=HS.out;omega) (Nat.le_refl _))).mono ?_;rintro e1 w1 ⟨rfl,⟨K1,ha1,hk1⟩,hg1⟩;have HA2:=Ya ha1;have HB2:Aside0 (Base3 M K1 N):=⟨base_more HB1.out hk1 (Nat.le_refl _)⟩;have HK2:Aside0 (Blk K1 s2 0 N):=⟨blk_snoc (blk_mix HK.out.1 hk1.1 (Or.inl (Nat.le_refl _))) hk.out hk1.2.2.2⟩;have HG2:Aside0 (Fr w w1 g):=⟨grow_trans HG.out hg1⟩;clear ha1 hk1 hg1 HA1 HB1 HK HG hk HBB HM;go_wp2_with fail;go_roundw
        case rel=>exact⟨s2,hsp.out.1,by omega,rfl,⟨K1,HA2,HB2,HK2⟩,HG2⟩
        case measure=>have:=hsp.out;simp[intOf]<;>omega
       ·have hcm:decide ((m:Int)<(N:Int))=false:=Yw (by omega)
        have HK2:Aside0 (Blk K s2 0 N):=⟨blk_snoc HK.out.1 hk.out (blk_head HK.out.2 (by have:=HM.out;omega) (Nat.le_refl _))⟩;clear HK hk HBB HM;go_wp2_with fail;go_roundw
        case rel=>exact⟨s2,hsp.out.1,by omega,rfl,⟨K,HA1,HB1,HK2⟩,HG⟩
        case measure=>have:=hsp.out;simp[intOf]<;>omega
    ·have hcs:decide ((s:Int)<(N:Int))=false:=Yw (by omega)
     go_wp2_with fail;go_end0;exact⟨rfl,⟨K,HA1.out,HB1.out.1,HB1.out.2.1,HB1.out.2.2,blk_head HK.out (by omega) (Nat.le_refl _)⟩,HG.out⟩
theorem sortStable_calls (g N cap:Nat) (M:Nat→S79) (w:World) (h:Arr w g N M) (hN:N≤1000000) (hs:Stab M N) (hsm:Small M N):
  Calls Try.prog 85 #[.slice (some ⟨g,0,none⟩) N cap, .func (.func 86) #[] #[]] w fun e w'=>e= .returned (.tuple #[])∧(∃ K,Arr w' g N K∧Sorted M K N 0 N)∧Fr w w' g:=by
 go_enter Try.func85,Try.ntmps85;go_wp2_with fail;refine(stable_calls g N cap M w h hN hs hsm).mono ?_;rintro e1 w1 ⟨rfl,h1,h2⟩;go_wp2_with fail;go_end0;exact⟨rfl,h1,h2⟩
end H
namespace H
open P
theorem arr_of_R {w:World} {base g cap:Nat} {ok:Nat→Prop} {xs:List S79} (h:Kd.R k79 79 w base ok (.slice (some ⟨g,0,none⟩) xs.length cap) xs) (hp:0<xs.length):Arr w g xs.length fun i=>xs.getD i z79:=by
 obtain⟨g2,cap2,e,_,_,cells,hb⟩:=Kd.R_form h hp;have eg:g=g2:=by
  injection e with e1 e2 e3
  injection e1 with e1
  injection e1
 subst eg;refine⟨cells,hb,fun x hx=> ?_⟩;obtain⟨ad,ea,h1,h2⟩:=at_T79 (Kd.R_reads' h).2.2 (x:Int) (by omega) (by omega);injection ea with ea
 subst ea;simp only[Int.toNat_natCast,add_plain] at h1 h2;constructor
 ·have:=h1
  simp only[World.cell?,hb] at this
  simpa [rd_T79] using this
 ·have:=h2
  simp only[World.cell?,hb] at this
  simpa [rd_T79] using this
theorem R_of_arr {w w':World} {base g N cap:Nat} {ok ok':Nat→Prop} {xs:List S79} {K:Nat→S79} (h:Kd.R k79 79 w base ok (.slice (some ⟨g,0,none⟩) xs.length cap) xs) (hN:xs.length=N) (hp:0<N) (ha:Arr w' g N K) (hf:Fr w w' g) (hok:ok' g):
  Kd.R k79 79 w' base ok' (.slice (some ⟨g,0,none⟩) N cap) ((List.range N).map K):=by
 obtain⟨h0,inner,ho,hr⟩:=h;obtain⟨cells',hb',hc⟩:=ha;obtain⟨_,hq⟩:=ho;rcases hq with ⟨e,_⟩|⟨g2,cap2,cur,e,hbase,hb,hn,hm,hs,ht⟩
 ·injection e with e1;cases e1
 ·injection e with e1 e2 e3
  injection e1 with e1
  injection e1 with e1
  subst e1;subst e3;obtain⟨c2,hb2,hs2⟩:=hf.2 _ _ _ hb;have ec:c2=cells':=by
   have:=hb2.symm.trans hb';injection this with this
   injection this
  subst ec;have hlen:(c2.toList.take (N * 2)).length=N * 2:=by
   rw[List.length_take,Array.length_toList,hs2,hs];have:N≤cap:=by omega
   have:N * 2≤cap * 2:=Nat.mul_le_mul_right _ this;show min (N * 2) (cap * 2)=N * 2;omega
  refine⟨fun k hk=> ?_,c2.toList.take (N * 2),⟨?_,Or.inr ⟨g,cap,c2,?_,hbase,hb2,?_,hm,by rw[hs2,hs],?_⟩⟩,?_,fun j p hj=> ?_⟩
  ·have:g=k:=by simpa [Value.ownBlock] using hk
   subst this;exact hok
  ·rw[hlen,List.length_map,List.length_range];rfl
  ·rw[List.length_map,List.length_range]
  ·rw[List.length_map,List.length_range];omega
  ·rw[List.length_map,List.length_range];rfl
  ·rw[hlen,List.length_map,List.length_range];rfl
  ·rw[List.getElem?_map] at hj
   obtain⟨q,hq,rfl⟩:=Option.map_eq_some_iff.1 hj;have hjN:j<N:=by
    have:=(List.getElem?_eq_some_iff.1 hq).1
    rwa [List.length_range] at this
   have eq:q=j:=by
    rw[List.getElem?_range hjN] at hq;injection hq with hq;exact hq.symm
   subst eq;have e:((c2.toList.take (N * 2)).drop (q * 2)).take 2=[.int .i64 (K q).f0, .bool (K q).f1]:=by
    obtain⟨c0,c1⟩:=hc q hjN;apply List.ext_getElem?;intro m;rw[List.getElem?_take,List.getElem?_drop,List.getElem?_take]
    match m with
    |0=>rw[Yx (by omega),Yx (by omega),Nat.add_zero,Array.getElem?_toList,c0];rfl
    |1=>rw[Yx (by omega),Yx (by omega),Array.getElem?_toList,c1];rfl
    |m+2=>rw[Yy (by omega)];rfl
   show (Kd.M k79 w' base _ (K q) (((c2.toList.take (N * 2)).drop (q * 2)).take 2));rw[e];exact k79_mkM _ _ _ _
theorem stab_of_list {xs:List S79} (h:xs.Pairwise fun x y=>x.f0=y.f0→x.f1=false∧y.f1=true):Stab (fun i=>xs.getD i z79) xs.length:=by
 intro i j hij hj e;rw[List.pairwise_iff_getElem] at h;have hi:i<xs.length:=by omega
 simp only[List.getD_eq_getElem?_getD,List.getElem?_eq_getElem hi,List.getElem?_eq_getElem hj,Option.getD_some] at e ⊢;exact h i j hi hj hij e
theorem small_steps {l:List S50} {n:Nat} {v:Int} (hv0:0≤v) (hv:v<n) (hE:ends l n) (hl:l.length≤1000000):Small (fun i=>(stepsU l n v).getD i z79) (stepsU l n v).length:=by
 intro i hi;simp only[List.getD_eq_getElem?_getD,List.getElem?_eq_getElem hi,Option.getD_some];obtain⟨k,h1,h2,_⟩:=(mem_stepsU l n v hv0 hv hE _).1 (List.getElem_mem hi);rw[h2];omega
theorem sorted_is {l:List S50} {n:Nat} {v:Int} {K:Nat→S79} (hv0:0≤v) (hv:v<n) (hE:ends l n)
  (h:Sorted (fun i=>(stepsU l n v).getD i z79) K (stepsU l n v).length 0 (stepsU l n v).length):(List.range (stepsU l n v).length).map K=stL l v l.length:=by
 obtain⟨⟨_,m1,m2⟩,hst,_,hle⟩:=h;refine sorted_uniq _ _ ?_ (sorted_stL l v l.length) fun s=> ?_
 ·rw[List.pairwise_map]
  refine List.Pairwise.imp_of_mem (R:=(· < ·)) (fun {a b} ha hb hab=> ?_) List.pairwise_lt_range;rw[List.mem_range] at ha hb;have:=hle a b (Nat.zero_le _) hab hb;by_cases e:(K a).f0=(K b).f0
  ·exact Or.inr ⟨e,hst a b hab hb e⟩
  ·exact Or.inl (by omega)
 ·rw[mem_stL, ← mem_stepsU l n v hv0 hv hE,List.mem_map]
  constructor
  ·rintro⟨i,hi,rfl⟩
   rw[List.mem_range] at hi;obtain⟨y,_,hy,e⟩:=m1 i (Nat.zero_le _) hi;rw[e];simp only[List.getD_eq_getElem?_getD,List.getElem?_eq_getElem hy,Option.getD_some];exact List.getElem_mem hy
  ·intro hs
   obtain⟨y,hy,e⟩:=List.mem_iff_getElem.1 hs;obtain⟨x,_,hx,e2⟩:=m2 y (Nat.zero_le _) hy;refine⟨x,List.mem_range.2 hx,?_⟩;rw[e2];simp only[List.getD_eq_getElem?_getD,List.getElem?_eq_getElem hy,Option.getD_some];exact e
def rowsAt (l:List S50) (n k:Nat):List (List S79):=(List.range n).map fun v=>if v<k then stL l v l.length else []
theorem rowsAt_len (l:List S50) (n k:Nat):(rowsAt l n k).length=n:=by
 unfold rowsAt;rw[List.length_map,List.length_range]
theorem rowsAt_get (l:List S50) (n k v:Nat) (hv:v<n):(rowsAt l n k)[v]? =some (if v<k then stL l v l.length else []):=by
 unfold rowsAt;rw[List.getElem?_map,List.getElem?_range hv];rfl
theorem rowsAt_zero (l:List S50) (n:Nat):rowsAt l n 0=List.replicate n []:=by
 apply List.ext_getElem?;intro v;by_cases hv:v<n
 ·rw[rowsAt_get l n 0 v hv,List.getElem?_replicate,Yx hv,Yy (by omega)]
 ·rw[List.getElem?_eq_none (by rw[rowsAt_len];omega),List.getElem?_eq_none (by rw[List.length_replicate];omega)]
theorem rowsAt_set (l:List S50) (n k:Nat) (hk:k<n):(rowsAt l n k).set k (stL l k l.length)=rowsAt l n (k+1):=by
 apply List.ext_getElem?;intro v;by_cases hv:v<n
 ·rw[rowsAt_get l n (k+1) v hv]
  by_cases e:k=v
  ·subst e
   rw[List.getElem?_set_self (by rw[rowsAt_len];exact hk),Yx (by omega)]
  ·rw[List.getElem?_set_ne e,rowsAt_get l n k v hv]
   by_cases c:v<k
   ·rw[Yx c,Yx (by omega)]
   ·rw[Yy c,Yy (by omega)]
 ·rw[List.getElem?_eq_none (by rw[List.length_set,rowsAt_len];omega),List.getElem?_eq_none (by rw[rowsAt_len];omega)]
theorem rowsAt_self (l:List S50) (n k:Nat) (hk:k<n):(rowsAt l n k).set k []=rowsAt l n k:=by
 apply List.ext_getElem?;intro v;by_cases e:k=v
 ·subst e
  rw[List.getElem?_set_self (by rw[rowsAt_len];exact hk),rowsAt_get l n k k hk,Yy (by omega)]
 ·rw[List.getElem?_set_ne e]
theorem rd_set (X:List (List S79)) (k:Nat) (r:List S79) (hk:k<X.length):rd_L4 (X.set k r) (k:Int)=r:=by
 unfold rd_L4;rw[List.getD_eq_getElem?_getD,Int.toNat_natCast,List.getElem?_set_self hk];rfl
end H
namespace H
open P
structure Right (l:List S50) (F:List Int) (n:Nat):Prop where
 pos:0<n
 fifty:n≤50
 arcs:l.length≤200
 len:F.length=l.length
 ends:ends l n
 nums: ∀ i:Nat,i<l.length→0≤(rd_T50 l i).f3∧(rd_T50 l i).f3≤1048576∧0≤F.getD i 0∧F.getD i 0≤(rd_T50 l i).f2∧(rd_T50 l i).f2≤1048576
theorem stL_len (l:List S50) (v:Int) (k:Nat):(stL l v k).length≤2 * k:=by
 induction k with
 |zero=>exact Nat.le_refl _
 |succ k ih=>
  unfold stL;rw[List.length_append,List.length_append];split<;>split<;>simp<;>omega
def StepOf (l:List S50) (s:S79):Prop:= ∃ i:Nat,i<l.length∧s.f0=i
theorem stL_of {l:List S50} {v:Int} {s:S79} (h:s∈stL l v l.length):StepOf l s:=by
 obtain⟨i,h1,h2,_⟩:=(mem_stL l v l.length s).1 h;exact⟨i,h1,h2⟩
theorem stL_from {l:List S50} {v:Int} {s:S79} (h:s∈stL l v l.length):stFrom l s=v:=by
 obtain⟨i,h1,h2,h3⟩:=(mem_stL l v l.length s).1 h;unfold stFrom;rw[h2];rcases h3 with ⟨h3,h4⟩|⟨h3,h4⟩
 ·rw[h3];exact h4
 ·rw[h3];exact h4
theorem stTo_in {l:List S50} {F:List Int} {n:Nat} (hr:Right l F n) {s:S79} (hs:StepOf l s):0≤stTo l s∧stTo l s<n:=by
 obtain⟨i,h1,h2⟩:=hs;have:=hr.ends i h1;unfold stTo;rw[h2];split
 ·exact this.1
 ·exact this.2
theorem to_f {l:List S50} {F:List Int} {n:Nat} (hr:Right l F n) {s:S79} (hs:StepOf l s) (a:Int) (b:Bool):static_Flowing_To.f a b l F s.f0 s.f1=some (stTo l s):=by
 obtain⟨i,h1,h2⟩:=hs;unfold static_Flowing_To.f static_Flowing_From.f stTo eFrom eTo;rw[h2];cases s.f1<;>simp[h1]
theorem room_f {l:List S50} {F:List Int} {n:Nat} (hr:Right l F n) {s:S79} (hs:StepOf l s) (a:Int) (b:Bool):static_Flowing_Room.f a b l F s.f0 s.f1=some (stRoom l F s):=by
 obtain⟨i,h1,h2⟩:=hs;have h3:=hr.nums i h1;have h4:=hr.len;unfold static_Flowing_Room.f stRoom;rw[h2];have e:rd F (i:Int)=F.getD i 0:=by unfold rd;rw[Int.toNat_natCast]
 cases s.f1
 ·have:wrap64 ((rd_T50 l i).f2 - F.getD i 0)=(rd_T50 l i).f2 - F.getD i 0:=by unfold wrap64;omega
  rw[Yy (by simp),Yx (by omega),Yx (by omega),Yx (by omega),Yy (by simp),e,this,Int.toNat_natCast]
 ·rw[Yx rfl,Yx (by omega),Yx (by omega),Yx rfl,e,Int.toNat_natCast]
end H
namespace Q
theorem Ev.pos {α:Type} {c:Prop} [Decidable c] {f g:Nat→Option α} {r:α} (h:c) (e:Ev f r):Ev (fun k=>if c then f k else g k) r:=
 Ev.congr (fun _=>Yx h) e
theorem Ev.neg {α:Type} {c:Prop} [Decidable c] {f g:Nat→Option α} {r:α} (h: ¬ c) (e:Ev g r):Ev (fun k=>if c then f k else g k) r:=
 Ev.congr (fun _=>Yy h) e
theorem Ev.ite {α:Type} {c:Prop} [Decidable c] {f g:Nat→Option α} {r:α} (e:c→Ev f r) (e': ¬ c→Ev g r):Ev (fun k=>if c then f k else g k) r:=by
 by_cases h:c
 ·exact Ev.pos h (e h)
 ·exact Ev.neg h (e' h)
theorem Ev.succ {α:Type} {g:Nat→Option α} {r:α} (e:Ev (fun k=>g (k+1)) r):Ev g r:=Ev.step (fun _=>rfl) e
theorem Ev.let_ {α β:Type} {a:α} {f:Nat→α→Option β} {r:β} (e:Ev (fun k=>f k a) r):Ev (fun k=>(some a).bind (f k)) r:=e
theorem Ev.call {α β:Type} {g:Option α} {a:α} {f:Nat→α→Option β} {r:β} (h:g=some a) (e:Ev (fun k=>f k a) r):Ev (fun k=>g.bind (f k)) r:=by
 subst h;exact e
theorem Ev.done {α:Type} {a r:α} (h:a=r):Ev (fun _=>some a) r:=h▸Ev.now a
theorem Ev.eq {α:Type} {g:Nat→Option α} {a r:α} (h:Ev g a) (e:a=r):Ev g r:=e▸h
theorem wrap_id {x:Int} (h0: -9223372036854775808≤x) (h1:x≤9223372036854775807):wrap64 x=x:=by
 unfold wrap64;omega
theorem wrap_succ {i n:Nat} (h:i<n) (hn:n≤9223372036854775807):wrap64 ((i:Int)+1)=((i+1:Nat):Int):=by
 unfold wrap64;omega
theorem drop_getD {α:Type} (l:List α) (i:Nat) (d:α) (h:i<l.length):l.drop i=l.getD i d::l.drop (i+1):=by
 rw[List.drop_eq_getElem_cons h,List.getD_eq_getElem?_getD,List.getElem?_eq_getElem h];rfl
theorem rd_nat (xs:List Int) (i:Nat):rd xs (i:Int)=xs.getD i 0:=by
 unfold rd;rw[Int.toNat_natCast]
theorem getD_mem {α:Type} {l:List α} {i:Nat} {d:α} (h:i<l.length):l.getD i d∈l:=by
 rw[List.getD_eq_getElem?_getD,List.getElem?_eq_getElem h];exact List.getElem_mem h
theorem getD_set {α:Type} (l:List α) (i j:Nat) (a d:α) (h:i<l.length):(l.set i a).getD j d=if i=j then a else l.getD j d:=by
 rw[List.getD_eq_getElem?_getD,List.getD_eq_getElem?_getD,List.getElem?_set];by_cases e:i=j
 ·subst e;simp[h]
 ·simp[e]
theorem rd_set (l:List Int) (i j a:Int) (h0:0≤i) (h1:i<l.length) (h2:0≤j):rd (l.set i.toNat a) j=if i=j then a else rd l j:=by
 unfold rd;rw[getD_set _ _ _ _ _ (by omega)];by_cases e:i=j
 ·rw[Yx e,Yx (by omega)]
 ·rw[Yy e,Yy (by omega)]
theorem ext_rd {a b:List Int} (hl:a.length=b.length) (h: ∀ i:Nat,i<a.length→rd a i=rd b i):a=b:=by
 apply List.ext_getElem hl;intro i h1 h2;have:=h i h1;rw[rd_nat,rd_nat,List.getD_eq_getElem?_getD,List.getD_eq_getElem?_getD,List.getElem?_eq_getElem h1,List.getElem?_eq_getElem h2] at this;exact this
end Q
namespace H
open P Q
def stepsR (l:List S50) (F:List Int):Nat→List S79
 |0=>[]
 |k+1=>stepsR l F k ++ (if F.getD k 0<(rd_T50 l k).f2 then [⟨k,false⟩] else []) ++ (if 0<F.getD k 0 then [⟨k,true⟩] else [])
theorem stepsR_len (l:List S50) (F:List Int) (k:Nat):(stepsR l F k).length≤2 * k:=by
 induction k with
 |zero=>exact Nat.le_refl _
 |succ k ih=>
  unfold stepsR;rw[List.length_append,List.length_append];split<;>split<;>simp<;>omega
theorem mem_stepsR (l:List S50) (F:List Int) (k:Nat) (s:S79):s∈stepsR l F k↔(∃ i:Nat,i<k∧s.f0=i)∧0<stRoom l F s:=by
 induction k with
 |zero=>
  constructor
  ·intro h;cases h
  ·rintro⟨⟨i,h,_⟩,_⟩;omega
 |succ k ih=>
  unfold stepsR;rw[List.mem_append,List.mem_append,ih];constructor
  ·rintro((⟨⟨i,h1,h2⟩,h3⟩|h)|h)
   ·exact⟨⟨i,by omega,h2⟩,h3⟩
   ·split at h
    ·rename_i he
     rw[List.mem_singleton] at h;subst h;refine⟨⟨k,by omega,rfl⟩,?_⟩;unfold stRoom;simp only[Bool.false_eq_true,if_false,Int.toNat_natCast];omega
    ·cases h
   ·split at h
    ·rename_i he
     rw[List.mem_singleton] at h;subst h;refine⟨⟨k,by omega,rfl⟩,?_⟩;unfold stRoom;simp only[if_true,Int.toNat_natCast];exact he
    ·cases h
  ·rintro⟨⟨i,h1,h2⟩,h3⟩
   by_cases hi:i<k
   ·exact Or.inl (Or.inl ⟨⟨i,hi,h2⟩,h3⟩)
   ·have e:i=k:=by omega
    subst e;obtain⟨x,y⟩:=s;simp only at h2;subst h2;unfold stRoom at h3;cases y
    ·simp only[Bool.false_eq_true,if_false,Int.toNat_natCast] at h3
     exact Or.inl (Or.inr (by rw[Yx (by omega)];exact List.mem_singleton.2 rfl))
    ·simp only[if_true,Int.toNat_natCast] at h3
     exact Or.inr (by rw[Yx h3];exact List.mem_singleton.2 rfl)
theorem steps_l0 {l:List S50} {F:List Int} {n:Nat} (hr:Right l F n) (a:Int) (b:Bool) (d:Nat): ∀ i:Nat,i+d=F.length→
  Ev (fun k=>ebbtideref07_Steps.l0 k F (stepsR l F i) (i:Int) a b l) (stepsR l F F.length):=by
 have hl:=hr.len;have hl2:=hr.arcs
 induction d with
 |zero=>
  intro i hi;refine Ev.succ ?_;simp only[ebbtideref07_Steps.l0];repeat(first|exact Ev.now _|with_reducible refine Ev.pos (by first|assumption|omega) ?_|with_reducible refine Ev.neg (by first|assumption|omega) ?_|with_reducible refine Ev.let_ ?_)
  exact Ev.done (by rw[show i=F.length by omega])
 |succ d ih=>
  intro i hi;have hn:=ih (i+1) (by omega);have hsl:=stepsR_len l F i;have e1:rd F (i:Int)=F.getD i 0:=rd_nat F i;have e2:stepsR l F (i+1)=stepsR l F i ++ (if F.getD i 0<(rd_T50 l i).f2 then [⟨i,false⟩] else []) ++ (if 0<F.getD i 0 then [⟨i,true⟩] else []):=rfl;rw[e2] at hn;refine Ev.succ ?_;simp only[ebbtideref07_Steps.l0];repeat(first|exact Ev.now _|with_reducible refine Ev.pos (by first|assumption|omega) ?_|with_reducible refine Ev.neg (by first|assumption|omega) ?_|with_reducible refine Ev.let_ ?_)
  rw[wrap_succ (n:=F.length) (by omega) (by omega),e1];refine Ev.ite (fun g=> ?_) (fun g=> ?_)
  ·rw[Yx (show F.getD i 0<(rd_T50 l i).f2 from g)] at hn
   repeat(first|exact Ev.now _|with_reducible refine Ev.pos (by first|assumption|omega) ?_|with_reducible refine Ev.neg (by first|assumption|omega) ?_|with_reducible refine Ev.let_ ?_)
   refine Ev.ite (fun g2=> ?_) (fun g2=> ?_)
   ·rw[Yx (show 0<F.getD i 0 from g2)] at hn
    refine Ev.pos (by rw[List.length_append];simp;omega) ?_;exact hn
   ·rw[Yy (show ¬ 0<F.getD i 0 from g2),List.append_nil] at hn
    exact hn
  ·rw[Yy (show ¬ F.getD i 0<(rd_T50 l i).f2 from g),List.append_nil] at hn
   refine Ev.ite (fun g2=> ?_) (fun g2=> ?_)
   ·rw[Yx (show 0<F.getD i 0 from g2)] at hn
    refine Ev.pos (by omega) ?_;exact hn
   ·rw[Yy (show ¬ 0<F.getD i 0 from g2),List.append_nil] at hn
    exact hn
theorem steps_ev {l:List S50} {F:List Int} {n:Nat} (hr:Right l F n) (a:Int) (b:Bool):Ev (fun k=>ebbtideref07_Steps.f k a b l F) (stepsR l F F.length):=by
 unfold ebbtideref07_Steps.f;exact steps_l0 hr a b F.length 0 (by omega)
theorem stFrom_in {l:List S50} {F:List Int} {n:Nat} (hr:Right l F n) {s:S79} (hs:StepOf l s):0≤stFrom l s∧stFrom l s<n:=by
 obtain⟨i,h1,h2⟩:=hs;have:=hr.ends i h1;unfold stFrom;rw[h2];split
 ·exact this.2
 ·exact this.1
theorem stepsR_of {l:List S50} {F:List Int} {n:Nat} (hr:Right l F n): ∀ s,s∈stepsR l F F.length→StepOf l s:=by
 intro s hs;have h:=((mem_stepsR l F F.length s).1 hs).1;rw[hr.len] at h;exact h
end H
namespace P
attribute [local go_sem] max2_int min2_int max_two min_two max_three min_three max_four min_four
def ebbtideref07_Leaves.l0:Nat→List Int→Int→Int→Int→Int→Bool→List (S50)→Option (Int)
 |0,_,_,_,_,_,_,_=>none
 |k+1,x1,x2,x7,x8,x203000,x203001,x203002=>if x8<(x1.length:Int) then(if 0≤x8 then(if x8<(x203002.length:Int) then(if ((rd_T50 x203002 x8).f0)=x2 then(if ((rd_T50 x203002 x8).f1)=x2 then(ebbtideref07_Leaves.l0 k x1 x2 (wrap64 ((wrap64 (x7+(rd x1 x8))) - (rd x1 x8))) (wrap64 (x8+1)) x203000 x203001 x203002) else(ebbtideref07_Leaves.l0 k x1 x2 (wrap64 (x7+(rd x1 x8))) (wrap64 (x8+1)) x203000 x203001 x203002)) else(if ((rd_T50 x203002 x8).f1)=x2 then(ebbtideref07_Leaves.l0 k x1 x2 (wrap64 (x7 - (rd x1 x8))) (wrap64 (x8+1)) x203000 x203001 x203002) else(ebbtideref07_Leaves.l0 k x1 x2 x7 (wrap64 (x8+1)) x203000 x203001 x203002))) else(none)) else(none)) else(some x7)
def ebbtideref07_Leaves.f (k:Nat) (Zc:Int) (Zb:Bool) (Za:List (S50)) (l1:List Int) (a2:Int):Option (Int):=ebbtideref07_Leaves.l0 k l1 a2 0 0 Zc Zb Za
set_option maxHeartbeats 8000000 in
set_option maxRecDepth 100000 in
theorem ebbtideref07_Leaves.calls (k:Nat) (Zc:Int) (Zb:Bool) (Ze:Option Addr) (Zd:Nat) (Za:List (S50)) (A1:Option Addr) (c1:Nat) (l1:List Int) (a2:Int) (r:Int) (w:World) (Zp:Kd.C k50 w Ze Za.length Za) (Zq:Za.length≤Zd) (hr1:Kd.C (Kd.int .i64) w A1 l1.length l1) (hc1:l1.length≤c1) (h:ebbtideref07_Leaves.f k Zc Zb Za l1 a2=some r):
  Calls Try.prog 76 #[.agg #[.int .i64 Zc, .bool Zb, .slice Ze Za.length Zd], .slice A1 l1.length c1, .int .i64 a2] w fun e w'=>e= .returned (.int .i64 r)∧Below w.heap.size w w':=by
 have hu24:=Try.underlying24;have Zj:=Ya Zp;have Zs:=Ya Zq;clear Zp Zq;have HR1:=Ya hr1;have HC1:=Ya hc1;clear hr1 hc1;have HB:=Ya (Yo w.heap.size w);have H:=h;unfold ebbtideref07_Leaves.f at H;clear h;have H':=Ya H;clear H;go_enter Try.func76,Try.ntmps76;go_wp2_with (first|(refine bx 3 24 #[.int .i64 Zc, .bool Zb, .slice Ze Za.length Zd] ?_;intro gb202 hg w4 Zf hb;have Vj:=Ya (Zf);have GW202:=Ya ((sz hg));have GE202:=Ya ((sz hg));replace HB:=Ya (Yk bl hb);clear hb Zf hg));go_loopg [7,8] k (fun kq v7 v8 w'=> ∃ (Xc:Int) (Zi:Int),v7= .int .i64 Xc∧v8= .int .i64 Zi∧Aside0 (ebbtideref07_Leaves.l0 kq l1 a2 Xc Zi Zc Zb Za=some r)∧Aside0 (kq≤k)∧Aside0 (w'.heap[gb202]? =some (.cells #[.int .i64 Zc, .bool Zb,(.slice Ze Za.length Zd)] 24 (0,0)))∧Aside0 (Below w.heap.size w w'))
 case atStart=>exact⟨(0),(0),(by first|rfl|(simp;done)|(simp[*];done)),(by first|rfl|(simp;done)|(simp[*];done)),H',⟨Nat.le_refl _⟩,⟨Vj.out⟩,⟨HB.out⟩⟩
 case round=>
  clear H';try clear c1
  obtain⟨Xc,Zi,rfl,rfl,HA,HK1,Vj,HB⟩:=hrel;cases gk with
  |zero=>exact absurd HA.out (by simp[ebbtideref07_Leaves.l0])
  |succ k1=>
   have H:=HA.out;clear HA;simp only[ebbtideref07_Leaves.l0] at H;by_cases c5:Zi<(l1.length:Int)
   rotate_left
   ·rw[Yy c5] at H
    have c5b0:decide (Zi<(l1.length:Int))=false:=Yw c5;clear c5;obtain rfl:=Option.some.inj H;go_wp2;go_ret;exact⟨by first|rfl|(simp[errW_none,errW_some]<;>rfl)|(simp[*,errW_none,errW_some]<;>rfl),HB.out⟩
   rw[Yx c5] at H;have c5b0:decide (Zi<(l1.length:Int))=true:=Yv c5;clear c5;by_cases c6:0≤Zi
   rotate_left
   ·rw[Yy c6] at H
    exact absurd H (by simp)
   rw[Yx c6] at H;have c6b0:decide (0≤Zi)=true:=Yv c6;clear c6;by_cases c7:Zi<(Za.length:Int)
   rotate_left
   ·rw[Yy c7] at H
    exact absurd H (by simp)
   rw[Yx c7] at H;have c7b0:decide (Zi<(Za.length:Int))=true:=Yv c7;clear c7;by_cases c8:((rd_T50 Za Zi).f0)=a2
   rotate_left
   ·rw[Yy c8] at H
    have c8b0:(((rd_T50 Za Zi).f0) == a2)=false:=beq_eq_false_iff_ne.mpr c8;have c8b1:(((rd_T50 Za Zi).f0) != a2)=true:=bne_iff_ne.mpr c8;by_cases c12:((rd_T50 Za Zi).f1)=a2
    rotate_left
    ·rw[Yy c12] at H
     have c12b0:(((rd_T50 Za Zi).f1) == a2)=false:=beq_eq_false_iff_ne.mpr c12;have c12b1:(((rd_T50 Za Zi).f1) != a2)=true:=bne_iff_ne.mpr c12;have H':=Ya H;clear H;have Jp:wr.cell? ⟨gb202,0,none⟩=some (.int .i64 Zc):=bc Vj 0;have Jq:wr.cell? ⟨gb202,1,none⟩=some (.bool Zb):=bc Vj 1;have hcz14_2:wr.cell? ⟨gb202,2,none⟩=some (.slice Ze Za.length Zd):=bc Vj 2;have Jr:=Yf Vj.out 0;have Js:=Yf Vj.out 1;have hfz14_2:=Yf Vj.out 2;have p203:0≤(Zi:Int):=od;have q203:Zi<(Za.length:Int):=od;obtain⟨ad203,e203,hx203_0,hx203_1,hx203_2,hx203_3⟩:=at_T50 Zj.out Zi p203 q203;cases e203;replace hx203_0:=hc HB hx203_0;replace hx203_1:=hc HB hx203_1;replace hx203_2:=hc HB hx203_2;replace hx203_3:=hc HB hx203_3;replace p203:=eq_true p203;replace q203:=eq_true q203;have p207:0≤(Zi:Int):=od;have q207:Zi<(Za.length:Int):=od;obtain⟨ad207,e207,hx207_0,hx207_1,hx207_2,hx207_3⟩:=at_T50 Zj.out Zi p207 q207;obtain rfl:ad203=ad207:=(by injection e207);replace hx207_0:=hc HB hx207_0;replace hx207_1:=hc HB hx207_1;replace hx207_2:=hc HB hx207_2;replace hx207_3:=hc HB hx207_3;replace p207:=eq_true p207;replace q207:=eq_true q207;go_wp2;go_roundg k1
     case measure=>have:=HK1.out;omega
     case rel=>exact⟨(Xc),(wrap64 (Zi+1)),(by first|rfl|(simp;done)|(simp[*];done)),(by first|rfl|(simp;done)|(simp[*];done)),H',⟨by have:=HK1.out;omega⟩,⟨Vj.out⟩,⟨HB.out⟩⟩
    rw[Yx c12] at H;have c12b0:(((rd_T50 Za Zi).f1) == a2)=true:=beq_iff_eq.mpr c12;have c12b1:(((rd_T50 Za Zi).f1) != a2)=false:=bne_eq_false_iff_eq.mpr c12;clear c12;have H':=Ya H;clear H;have hcz13_0:wr.cell? ⟨gb202,0,none⟩=some (.int .i64 Zc):=bc Vj 0;have hcz13_1:wr.cell? ⟨gb202,1,none⟩=some (.bool Zb):=bc Vj 1;have hcz13_2:wr.cell? ⟨gb202,2,none⟩=some (.slice Ze Za.length Zd):=bc Vj 2;have hfz13_0:=Yf Vj.out 0;have hfz13_1:=Yf Vj.out 1;have hfz13_2:=Yf Vj.out 2;have p203:0≤(Zi:Int):=od;have q203:Zi<(Za.length:Int):=od;obtain⟨ad203,e203,hx203_0,hx203_1,hx203_2,hx203_3⟩:=at_T50 Zj.out Zi p203 q203;cases e203;replace hx203_0:=hc HB hx203_0;replace hx203_1:=hc HB hx203_1;replace hx203_2:=hc HB hx203_2;replace hx203_3:=hc HB hx203_3;replace p203:=eq_true p203;replace q203:=eq_true q203;have p207:0≤(Zi:Int):=od;have q207:Zi<(Za.length:Int):=od;obtain⟨ad207,e207,hx207_0,hx207_1,hx207_2,hx207_3⟩:=at_T50 Zj.out Zi p207 q207;obtain rfl:ad203=ad207:=(by injection e207);replace hx207_0:=hc HB hx207_0;replace hx207_1:=hc HB hx207_1;replace hx207_2:=hc HB hx207_2;replace hx207_3:=hc HB hx207_3;replace p207:=eq_true p207;replace q207:=eq_true q207;have p208:0≤(Zi:Int):=od;have q208:Zi<(l1.length:Int):=od;obtain⟨ad208,e208,hx208_0⟩:=Kd.at_int HR1.out Zi p208 q208;cases e208;replace hx208_0:=hc HB hx208_0;replace p208:=eq_true p208;replace q208:=eq_true q208;go_wp2;go_roundg k1
    case measure=>have:=HK1.out;omega
    case rel=>exact⟨(wrap64 (Xc - (rd l1 Zi))),(wrap64 (Zi+1)),(by first|rfl|(simp;done)|(simp[*];done)),(by first|rfl|(simp;done)|(simp[*];done)),H',⟨by have:=HK1.out;omega⟩,⟨Vj.out⟩,⟨HB.out⟩⟩
   rw[Yx c8] at H;have c8b0:(((rd_T50 Za Zi).f0) == a2)=true:=beq_iff_eq.mpr c8;have c8b1:(((rd_T50 Za Zi).f0) != a2)=false:=bne_eq_false_iff_eq.mpr c8;clear c8;by_cases c9:((rd_T50 Za Zi).f1)=a2
   rotate_left
   ·rw[Yy c9] at H
    have c9b0:(((rd_T50 Za Zi).f1) == a2)=false:=beq_eq_false_iff_ne.mpr c9;have c9b1:(((rd_T50 Za Zi).f1) != a2)=true:=bne_iff_ne.mpr c9;have H':=Ya H;clear H;have hcz11_0:wr.cell? ⟨gb202,0,none⟩=some (.int .i64 Zc):=bc Vj 0;have hcz11_1:wr.cell? ⟨gb202,1,none⟩=some (.bool Zb):=bc Vj 1;have hcz11_2:wr.cell? ⟨gb202,2,none⟩=some (.slice Ze Za.length Zd):=bc Vj 2;have hfz11_0:=Yf Vj.out 0;have hfz11_1:=Yf Vj.out 1;have hfz11_2:=Yf Vj.out 2;have p203:0≤(Zi:Int):=od;have q203:Zi<(Za.length:Int):=od;obtain⟨ad203,e203,hx203_0,hx203_1,hx203_2,hx203_3⟩:=at_T50 Zj.out Zi p203 q203;cases e203;replace hx203_0:=hc HB hx203_0;replace hx203_1:=hc HB hx203_1;replace hx203_2:=hc HB hx203_2;replace hx203_3:=hc HB hx203_3;replace p203:=eq_true p203;replace q203:=eq_true q203;have p204:0≤(Zi:Int):=od;have q204:Zi<(l1.length:Int):=od;obtain⟨ad204,e204,hx204_0⟩:=Kd.at_int HR1.out Zi p204 q204;cases e204;replace hx204_0:=hc HB hx204_0;replace p204:=eq_true p204;replace q204:=eq_true q204;have p205:0≤(Zi:Int):=od;have q205:Zi<(Za.length:Int):=od;obtain⟨ad205,e205,hx205_0,hx205_1,hx205_2,hx205_3⟩:=at_T50 Zj.out Zi p205 q205;obtain rfl:ad203=ad205:=(by injection e205);replace hx205_0:=hc HB hx205_0;replace hx205_1:=hc HB hx205_1;replace hx205_2:=hc HB hx205_2;replace hx205_3:=hc HB hx205_3;replace p205:=eq_true p205;replace q205:=eq_true q205;go_wp2;go_roundg k1
    case measure=>have:=HK1.out;omega
    case rel=>exact⟨(wrap64 (Xc+(rd l1 Zi))),(wrap64 (Zi+1)),(by first|rfl|(simp;done)|(simp[*];done)),(by first|rfl|(simp;done)|(simp[*];done)),H',⟨by have:=HK1.out;omega⟩,⟨Vj.out⟩,⟨HB.out⟩⟩
   rw[Yx c9] at H;have c9b0:(((rd_T50 Za Zi).f1) == a2)=true:=beq_iff_eq.mpr c9;have c9b1:(((rd_T50 Za Zi).f1) != a2)=false:=bne_eq_false_iff_eq.mpr c9;clear c9;have H':=Ya H;clear H;have Va:wr.cell? ⟨gb202,0,none⟩=some (.int .i64 Zc):=bc Vj 0;have Vb:wr.cell? ⟨gb202,1,none⟩=some (.bool Zb):=bc Vj 1;have Vr:wr.cell? ⟨gb202,2,none⟩=some (.slice Ze Za.length Zd):=bc Vj 2;have Vc:=Yf Vj.out 0;have Vd:=Yf Vj.out 1;have Vs:=Yf Vj.out 2;have p203:0≤(Zi:Int):=od;have q203:Zi<(Za.length:Int):=od;obtain⟨ad203,e203,hx203_0,hx203_1,hx203_2,hx203_3⟩:=at_T50 Zj.out Zi p203 q203;cases e203;replace hx203_0:=hc HB hx203_0;replace hx203_1:=hc HB hx203_1;replace hx203_2:=hc HB hx203_2;replace hx203_3:=hc HB hx203_3;replace p203:=eq_true p203;replace q203:=eq_true q203;have p204:0≤(Zi:Int):=od;have q204:Zi<(l1.length:Int):=od;obtain⟨ad204,e204,hx204_0⟩:=Kd.at_int HR1.out Zi p204 q204;cases e204;replace hx204_0:=hc HB hx204_0;replace p204:=eq_true p204;replace q204:=eq_true q204;have p205:0≤(Zi:Int):=od;have q205:Zi<(Za.length:Int):=od;obtain⟨ad205,e205,hx205_0,hx205_1,hx205_2,hx205_3⟩:=at_T50 Zj.out Zi p205 q205;obtain rfl:ad203=ad205:=(by injection e205);replace hx205_0:=hc HB hx205_0;replace hx205_1:=hc HB hx205_1;replace hx205_2:=hc HB hx205_2;replace hx205_3:=hc HB hx205_3;replace p205:=eq_true p205;replace q205:=eq_true q205;have p206:0≤(Zi:Int):=od;have q206:Zi<(l1.length:Int):=od;obtain⟨ad206,e206,hx206_0⟩:=Kd.at_int HR1.out Zi p206 q206;obtain rfl:ad204=ad206:=(by injection e206);replace hx206_0:=hc HB hx206_0;replace p206:=eq_true p206;replace q206:=eq_true q206;go_wp2;go_roundg k1
   case measure=>have:=HK1.out;omega
   case rel=>exact⟨(wrap64 ((wrap64 (Xc+(rd l1 Zi))) - (rd l1 Zi))),(wrap64 (Zi+1)),(by first|rfl|(simp;done)|(simp[*];done)),(by first|rfl|(simp;done)|(simp[*];done)),H',⟨by have:=HK1.out;omega⟩,⟨Vj.out⟩,⟨HB.out⟩⟩
end P
namespace P
attribute [local go_sem] max2_int min2_int max_two min_two max_three min_three max_four min_four
def ebbtideref05_nodes.f (a0:Int):Option (Int):=if a0<1 then(some 51) else(if a0>50 then(some 2) else(some 0))
set_option maxHeartbeats 8000000 in
set_option maxRecDepth 100000 in
theorem ebbtideref05_nodes.calls (a0:Int) (r:Int) (w:World) (h:ebbtideref05_nodes.f a0=some r):
  Calls Try.prog 62 #[.int .i64 a0] w fun e w'=>e= .returned (.int .i64 r)∧Drawn0 w w':=by
 have H:=h;unfold ebbtideref05_nodes.f at H;clear h;by_cases c2:a0<1
 ·rw[Yx c2] at H
  have c2b0:decide (a0<1)=true:=Yv c2;clear c2;obtain rfl:=Option.some.inj H;go_enter Try.func62,Try.ntmps62;go_wp2;go_ret;exact⟨by first|rfl|(simp;done)|(simp[*];done),by repeat(first|exact Drawn0.refl _|apply Drawn0.step)⟩
 rw[Yy c2] at H;have c2b0:decide (a0<1)=false:=Yw c2;clear c2;by_cases c3:a0>50
 rotate_left
 ·rw[Yy c3] at H
  have c3b0:decide (50<a0)=false:=Yw c3;clear c3;obtain rfl:=Option.some.inj H;go_enter Try.func62,Try.ntmps62;go_wp2;go_ret;exact⟨by first|rfl|(simp;done)|(simp[*];done),by repeat(first|exact Drawn0.refl _|apply Drawn0.step)⟩
 rw[Yx c3] at H;have c3b0:decide (50<a0)=true:=Yv c3;clear c3;obtain rfl:=Option.some.inj H;go_enter Try.func62,Try.ntmps62;go_wp2;go_ret;exact⟨by first|rfl|(simp;done)|(simp[*];done),by repeat(first|exact Drawn0.refl _|apply Drawn0.step)⟩
end P
namespace P
attribute [local go_sem] max2_int min2_int max_two min_two max_three min_three max_four min_four
def ebbtideref05_Arc.j0:Nat→Bool→Int→Int→Int→Int→Option (Int)
 |0,_,_,_,_,_=>none
 |k+1,x34,x186000,x186001,x186002,x186003=>if x34=true then(some 51) else(if x186002>1048576 then(some 2) else(if x186003>1048576 then(some 2) else(some 0)))
def ebbtideref05_Arc.f (k:Nat) (a0:Int) (Zk:Int) (Xf:Int) (Wp:Int) (Wq:Int):Option (Int):=if Zk<0 then(ebbtideref05_Arc.j0 k true Zk Xf Wp Wq) else(if Zk≥a0 then(ebbtideref05_Arc.j0 k true Zk Xf Wp Wq) else(if Xf<0 then(ebbtideref05_Arc.j0 k true Zk Xf Wp Wq) else(if Xf≥a0 then(ebbtideref05_Arc.j0 k true Zk Xf Wp Wq) else(if Wp<0 then(ebbtideref05_Arc.j0 k true Zk Xf Wp Wq) else(ebbtideref05_Arc.j0 k (decide (Wq<0)) Zk Xf Wp Wq)))))
set_option maxHeartbeats 8000000 in
set_option maxRecDepth 100000 in
theorem ebbtideref05_Arc.calls (k:Nat) (a0:Int) (Zk:Int) (Xf:Int) (Wp:Int) (Wq:Int) (r:Int) (w:World) (h:ebbtideref05_Arc.f k a0 Zk Xf Wp Wq=some r):
  Calls Try.prog 63 #[.int .i64 a0, .agg #[.int .i64 Zk, .int .i64 Xf, .int .i64 Wp, .int .i64 Wq]] w fun e w'=>e= .returned (.int .i64 r)∧Below w.heap.size w w':=by
 have hu50:=Try.underlying50;have HB:=Ya (Yo w.heap.size w);have H:=h;unfold ebbtideref05_Arc.f at H;clear h;have HC3:=Ya H;clear H;go_enter Try.func63,Try.ntmps63;go_upto_region 1 with (first|((with_reducible refine gate_dst (N:=3) rfl ?_);refine Yz ?hg (N:=3) ?hd (cs:= #[.int .i64 Zk, .int .i64 Xf, .int .i64 Wp, .int .i64 Wq]) (t:=50) ?hr ?_;(case hd=>rfl);(case hg=>rfl);(case hr=>first|(go_simp;done)|(go_simp;rfl));intro Wm hg w4 Zf hb;have n0_:=Ya (Yk (by repeat(first|(with_reducible first|exact HB.out|apply Ye|apply Yd|apply Yg)|exact HB.out)) hb);have n1_:=Ya (Zf);have n2_:=Ya ((by rw[hg];exact(Yi (by repeat(first|(with_reducible first|exact HB.out|apply Ye|apply Yd|apply Yg)|exact HB.out))):w.heap.size≤Wm));have n3_:=Ya ((by rw[hg];exact(Yi (by repeat(first|(with_reducible first|exact HB.out|apply Ye|apply Yd|apply Yg)|exact HB.out))):w.heap.size≤Wm));clear HB;have HB:=n0_;have Zz:=n1_;have GW185:=n2_;have GE185:=n3_;clear n0_ n1_ n2_ n3_;clear hb Zf hg))
 (try simp only[Act.put,List.setIfInBounds_toArray,List.set_cons_zero,List.set_cons_succ])
 go_cut [34] (fun v34 wc=> ∃ (kq:Nat) (x34_2:Bool),v34= .bool x34_2∧Aside0 (ebbtideref05_Arc.j0 kq x34_2 Zk Xf Wp Wq=some r)∧Aside0 (kq≤k)∧Aside0 (wc.heap[Wm]? =some (.cells #[.int .i64 Zk, .int .i64 Xf, .int .i64 Wp, .int .i64 Wq] 50 (0,0)))∧Aside0 (Below w.heap.size w wc))
 case first=>
  have H:=HC3.out;clear HC3;by_cases c5:Zk<0
  ·rw[Yx c5] at H
   have c5b0:decide (Zk<0)=true:=Yv c5;clear c5
   (first|rw[c5b0]|(simp only[i64_w,i32_w];rw[c5b0])|skip)
   have H':=Ya H;clear H;have hcz6_0:w4.cell? ⟨Wm,0,none⟩=some (.int .i64 Zk):=bc Zz 0;have hcz6_1:w4.cell? ⟨Wm,1,none⟩=some (.int .i64 Xf):=bc Zz 1;have hcz6_2:w4.cell? ⟨Wm,2,none⟩=some (.int .i64 Wp):=bc Zz 2;have hcz6_3:w4.cell? ⟨Wm,3,none⟩=some (.int .i64 Wq):=bc Zz 3;have hfz6_0:=Yf Zz.out 0;have hfz6_1:=Yf Zz.out 1;have hfz6_2:=Yf Zz.out 2;have hfz6_3:=Yf Zz.out 3;go_wp2;go_meet
   case rel=>exact⟨_,(true),(by first|rfl|(simp;done)|(simp[*];done)),H',⟨by first|omega|exact Nat.le_refl _⟩,⟨Zz.out⟩,⟨HB.out⟩⟩
  rw[Yy c5] at H;have c5b0:decide (Zk<0)=false:=Yw c5;clear c5
  (first|rw[c5b0]|(simp only[i64_w,i32_w];rw[c5b0])|skip)
  by_cases c7:Zk≥a0
  ·rw[Yx c7] at H
   have c7b0:decide (a0≤Zk)=true:=Yv c7;clear c7;have H':=Ya H;clear H;have Uj:w4.cell? ⟨Wm,0,none⟩=some (.int .i64 Zk):=bc Zz 0;have Uk:w4.cell? ⟨Wm,1,none⟩=some (.int .i64 Xf):=bc Zz 1;have Ja:w4.cell? ⟨Wm,2,none⟩=some (.int .i64 Wp):=bc Zz 2;have hcz8_3:w4.cell? ⟨Wm,3,none⟩=some (.int .i64 Wq):=bc Zz 3;have Ul:=Yf Zz.out 0;have Um:=Yf Zz.out 1;have Jb:=Yf Zz.out 2;have hfz8_3:=Yf Zz.out 3;go_wp2;go_meet
   case rel=>exact⟨_,(true),(by first|rfl|(simp;done)|(simp[*];done)),H',⟨by first|omega|exact Nat.le_refl _⟩,⟨Zz.out⟩,⟨HB.out⟩⟩
  rw[Yy c7] at H;have c7b0:decide (a0≤Zk)=false:=Yw c7;clear c7;by_cases c9:Xf<0
  ·rw[Yx c9] at H
   have c9b0:decide (Xf<0)=true:=Yv c9;clear c9;have H':=Ya H;clear H;have Va:w4.cell? ⟨Wm,0,none⟩=some (.int .i64 Zk):=bc Zz 0;have Vb:w4.cell? ⟨Wm,1,none⟩=some (.int .i64 Xf):=bc Zz 1;have Vr:w4.cell? ⟨Wm,2,none⟩=some (.int .i64 Wp):=bc Zz 2;have hcz10_3:w4.cell? ⟨Wm,3,none⟩=some (.int .i64 Wq):=bc Zz 3;have Vc:=Yf Zz.out 0;have Vd:=Yf Zz.out 1;have Vs:=Yf Zz.out 2;have hfz10_3:=Yf Zz.out 3;go_wp2;go_meet
   case rel=>exact⟨_,(true),(by first|rfl|(simp;done)|(simp[*];done)),H',⟨by first|omega|exact Nat.le_refl _⟩,⟨Zz.out⟩,⟨HB.out⟩⟩
  rw[Yy c9] at H;have c9b0:decide (Xf<0)=false:=Yw c9;clear c9;by_cases c11:Xf≥a0
  ·rw[Yx c11] at H
   have c11b0:decide (a0≤Xf)=true:=Yv c11;clear c11;have H':=Ya H;clear H;have hcz12_0:w4.cell? ⟨Wm,0,none⟩=some (.int .i64 Zk):=bc Zz 0;have hcz12_1:w4.cell? ⟨Wm,1,none⟩=some (.int .i64 Xf):=bc Zz 1;have hcz12_2:w4.cell? ⟨Wm,2,none⟩=some (.int .i64 Wp):=bc Zz 2;have hcz12_3:w4.cell? ⟨Wm,3,none⟩=some (.int .i64 Wq):=bc Zz 3;have hfz12_0:=Yf Zz.out 0;have hfz12_1:=Yf Zz.out 1;have hfz12_2:=Yf Zz.out 2;have hfz12_3:=Yf Zz.out 3;go_wp2;go_meet
   case rel=>exact⟨_,(true),(by first|rfl|(simp;done)|(simp[*];done)),H',⟨by first|omega|exact Nat.le_refl _⟩,⟨Zz.out⟩,⟨HB.out⟩⟩
  rw[Yy c11] at H;have c11b0:decide (a0≤Xf)=false:=Yw c11;clear c11;by_cases c13:Wp<0
  rotate_left
  ·rw[Yy c13] at H
   have c13b0:decide (Wp<0)=false:=Yw c13;clear c13;have H':=Ya H;clear H;have hcz15_0:w4.cell? ⟨Wm,0,none⟩=some (.int .i64 Zk):=bc Zz 0;have hcz15_1:w4.cell? ⟨Wm,1,none⟩=some (.int .i64 Xf):=bc Zz 1;have hcz15_2:w4.cell? ⟨Wm,2,none⟩=some (.int .i64 Wp):=bc Zz 2;have hcz15_3:w4.cell? ⟨Wm,3,none⟩=some (.int .i64 Wq):=bc Zz 3;have hfz15_0:=Yf Zz.out 0;have hfz15_1:=Yf Zz.out 1;have hfz15_2:=Yf Zz.out 2;have hfz15_3:=Yf Zz.out 3;go_wp2;go_meet
   case rel=>exact⟨_,(decide (Wq<0)),(by first|rfl|(simp;done)|(simp[*];done)),H',⟨by first|omega|exact Nat.le_refl _⟩,⟨Zz.out⟩,⟨HB.out⟩⟩
  rw[Yx c13] at H;have c13b0:decide (Wp<0)=true:=Yv c13;clear c13;have H':=Ya H;clear H;have Jp:w4.cell? ⟨Wm,0,none⟩=some (.int .i64 Zk):=bc Zz 0;have Jq:w4.cell? ⟨Wm,1,none⟩=some (.int .i64 Xf):=bc Zz 1;have hcz14_2:w4.cell? ⟨Wm,2,none⟩=some (.int .i64 Wp):=bc Zz 2;have hcz14_3:w4.cell? ⟨Wm,3,none⟩=some (.int .i64 Wq):=bc Zz 3;have Jr:=Yf Zz.out 0;have Js:=Yf Zz.out 1;have hfz14_2:=Yf Zz.out 2;have hfz14_3:=Yf Zz.out 3;go_wp2;go_meet
  case rel=>exact⟨_,(true),(by first|rfl|(simp;done)|(simp[*];done)),H',⟨by first|omega|exact Nat.le_refl _⟩,⟨Zz.out⟩,⟨HB.out⟩⟩
 case rest=>
  clear HC3;try clear c5
  try clear c5b0
  try clear c7
  try clear c7b0
  try clear c9
  try clear c9b0
  try clear c11
  try clear c11b0
  try clear c13
  try clear c13b0
  try clear Va
  try clear Vb
  try clear Vr
  try clear hcz10_3
  try clear hcz12_0
  try clear hcz12_1
  try clear hcz12_2
  try clear hcz12_3
  try clear Jp
  try clear Jq
  try clear hcz14_2
  try clear hcz14_3
  try clear hcz15_0
  try clear hcz15_1
  try clear hcz15_2
  try clear hcz15_3
  try clear hcz6_0
  try clear hcz6_1
  try clear hcz6_2
  try clear hcz6_3
  try clear Uj
  try clear Uk
  try clear Ja
  try clear hcz8_3
  try clear Vc
  try clear Vd
  try clear Vs
  try clear hfz10_3
  try clear hfz12_0
  try clear hfz12_1
  try clear hfz12_2
  try clear hfz12_3
  try clear Jr
  try clear Js
  try clear hfz14_2
  try clear hfz14_3
  try clear hfz15_0
  try clear hfz15_1
  try clear hfz15_2
  try clear hfz15_3
  try clear hfz6_0
  try clear hfz6_1
  try clear hfz6_2
  try clear hfz6_3
  try clear Ul
  try clear Um
  try clear Jb
  try clear hfz8_3
  obtain⟨kq,x34_2,rfl,HA,HJ2,Zz,HB⟩:=hcut;cases kq with
  |zero=>exact absurd HA.out (by simp[ebbtideref05_Arc.j0])
  |succ kj2=>
   have H:=HA.out;clear HA;simp only[ebbtideref05_Arc.j0] at H;by_cases c16:x34_2=true
   ·subst c16
    first|rw[Yx rfl] at H|rw[Yx trivial] at H
    obtain rfl:=Option.some.inj H;go_wp2;go_ret;exact⟨by first|rfl|(simp[errW_none,errW_some]<;>rfl)|(simp[*,errW_none,errW_some]<;>rfl),HB.out⟩
   replace c16:=Bool.eq_false_iff.mpr c16;subst c16;rw[Yy (show ¬ (false=true) by decide)] at H;by_cases c17:Wp>1048576
   ·rw[Yx c17] at H
    have c17b0:decide (1048576<Wp)=true:=Yv c17;clear c17;obtain rfl:=Option.some.inj H;have hcz18_0:wc.cell? ⟨Wm,0,none⟩=some (.int .i64 Zk):=bc Zz 0;have hcz18_1:wc.cell? ⟨Wm,1,none⟩=some (.int .i64 Xf):=bc Zz 1;have hcz18_2:wc.cell? ⟨Wm,2,none⟩=some (.int .i64 Wp):=bc Zz 2;have hcz18_3:wc.cell? ⟨Wm,3,none⟩=some (.int .i64 Wq):=bc Zz 3;have hfz18_0:=Yf Zz.out 0;have hfz18_1:=Yf Zz.out 1;have hfz18_2:=Yf Zz.out 2;have hfz18_3:=Yf Zz.out 3;go_wp2;go_ret;exact⟨by first|rfl|(simp[errW_none,errW_some]<;>rfl)|(simp[*,errW_none,errW_some]<;>rfl),HB.out⟩
   rw[Yy c17] at H;have c17b0:decide (1048576<Wp)=false:=Yw c17;clear c17;by_cases c19:Wq>1048576
   rotate_left
   ·rw[Yy c19] at H
    have c19b0:decide (1048576<Wq)=false:=Yw c19;clear c19;obtain rfl:=Option.some.inj H;have hcz21_0:wc.cell? ⟨Wm,0,none⟩=some (.int .i64 Zk):=bc Zz 0;have hcz21_1:wc.cell? ⟨Wm,1,none⟩=some (.int .i64 Xf):=bc Zz 1;have hcz21_2:wc.cell? ⟨Wm,2,none⟩=some (.int .i64 Wp):=bc Zz 2;have hcz21_3:wc.cell? ⟨Wm,3,none⟩=some (.int .i64 Wq):=bc Zz 3;have hfz21_0:=Yf Zz.out 0;have hfz21_1:=Yf Zz.out 1;have hfz21_2:=Yf Zz.out 2;have hfz21_3:=Yf Zz.out 3;go_wp2;go_ret;exact⟨by first|rfl|(simp[errW_none,errW_some]<;>rfl)|(simp[*,errW_none,errW_some]<;>rfl),HB.out⟩
   rw[Yx c19] at H;have c19b0:decide (1048576<Wq)=true:=Yv c19;clear c19;obtain rfl:=Option.some.inj H;have hcz20_0:wc.cell? ⟨Wm,0,none⟩=some (.int .i64 Zk):=bc Zz 0;have hcz20_1:wc.cell? ⟨Wm,1,none⟩=some (.int .i64 Xf):=bc Zz 1;have hcz20_2:wc.cell? ⟨Wm,2,none⟩=some (.int .i64 Wp):=bc Zz 2;have hcz20_3:wc.cell? ⟨Wm,3,none⟩=some (.int .i64 Wq):=bc Zz 3;have hfz20_0:=Yf Zz.out 0;have hfz20_1:=Yf Zz.out 1;have hfz20_2:=Yf Zz.out 2;have hfz20_3:=Yf Zz.out 3;go_wp2;go_ret;exact⟨by first|rfl|(simp[errW_none,errW_some]<;>rfl)|(simp[*,errW_none,errW_some]<;>rfl),HB.out⟩
end P
namespace P
attribute [local go_sem] max2_int min2_int max_two min_two max_three min_three max_four min_four
def ebbtideref05_Check.l0:Nat→Int→Int→Bool→List (S50)→Option (Int)
 |0,_,_,_,_=>none
 |k+1,x4,x187000,x187001,x187002=>if x4<(x187002.length:Int) then(if 0≤x4 then((ebbtideref05_Arc.f k x187000 ((rd_T50 x187002 x4).f0) ((rd_T50 x187002 x4).f1) ((rd_T50 x187002 x4).f2) ((rd_T50 x187002 x4).f3)).bind fun t189=>(if t189=0 then(ebbtideref05_Check.l0 k (wrap64 (x4+1)) x187000 x187001 x187002) else(some t189))) else(none)) else(some 0)
def ebbtideref05_Check.f (k:Nat) (Zc:Int) (Zb:Bool) (Za:List (S50)):Option (Int):=(ebbtideref05_nodes.f Zc).bind fun t187=>(if t187=0 then(if (Za.length:Int)>200 then(some 2) else(ebbtideref05_Check.l0 k 0 Zc Zb Za)) else(some t187))
def ebbtideref05_Check.T9:Bool × List (List Nat × List Nat):=(true,[([],[]),([0],[0]),([],[]),([2],[2]),([],[]),([3,4],[3,4]),([5],[5]),([1,6],[1,6]),([7,7,0,1,2,3,4,5,6,7],[7])])
def ebbtideref05_Check.B9:List Nat:=[0,1,0,4,0,28,60,127,255]
theorem ebbtideref05_Check.tab9:rtab .any (opsOf Try.f30 9)=ebbtideref05_Check.T9:=by kernel_rfl
theorem ebbtideref05_Check.bits9:waitsOk ebbtideref05_Check.T9.2 ebbtideref05_Check.B9=true:=by kernel_rfl
set_option maxHeartbeats 8000000 in
set_option maxRecDepth 100000 in
theorem ebbtideref05_Check.calls (k:Nat) (Zc:Int) (Zb:Bool) (Ze:Option Addr) (Zd:Nat) (Za:List (S50)) (r:Int) (w:World) (Zp:Kd.C k50 w Ze Za.length Za) (Zq:Za.length≤Zd) (h:ebbtideref05_Check.f k Zc Zb Za=some r):
  Calls Try.prog 30 #[.agg #[.int .i64 Zc, .bool Zb, .slice Ze Za.length Zd]] w fun e w'=>e= .returned (.int .i64 r)∧Below w.heap.size w w':=by
 have hu24:=Try.underlying24;have hu50:=Try.underlying50;have Zj:=Ya Zp;have Zs:=Ya Zq;clear Zp Zq;have HB:=Ya (Yo w.heap.size w);have H:=h;unfold ebbtideref05_Check.f at H;clear h;replace H:=Option.bind_eq_some_iff.mp H;obtain⟨t187,A20,H⟩:=H;try dsimp only at H
 have A2:=Ya A20;clear A20;by_cases c3:t187=0
 rotate_left
 ·rw[Yy c3] at H
  have c3b0:(t187 == 0)=false:=beq_eq_false_iff_ne.mpr c3;have c3b1:(t187 != 0)=true:=bne_iff_ne.mpr c3;obtain rfl:=Option.some.inj H;go_enter Try.func30,Try.ntmps30;go_wp2_with (first|(refine bx 1 24 #[.int .i64 Zc, .bool Zb, .slice Ze Za.length Zd] ?_;intro Wv hg w20 Zf hb;have Xg:=Ya (Zf);have GW186:=Ya (by rw[hg];exact(Yi HB.out):w.heap.size≤Wv);have GE186:=Ya (by rw[hg];exact(Yi HB.out):w.heap.size≤Wv);replace HB:=Ya (Yk HB.out hb);clear hb Zf hg;have hcz21_0:w20.cell? ⟨Wv,0,none⟩=some (.int .i64 Zc):=bc Xg 0;have hcz21_1:w20.cell? ⟨Wv,1,none⟩=some (.bool Zb):=bc Xg 1;have hcz21_2:w20.cell? ⟨Wv,2,none⟩=some (.slice Ze Za.length Zd):=bc Xg 2;have hfz21_0:=Yf Xg.out 0;have hfz21_1:=Yf Xg.out 1;have hfz21_2:=Yf Xg.out 2)|((with_reducible refine gate_callee (f:=62) rfl ?_);refine gl (some 8) Try.func62 #[.int .i64 Zc] ?_;(with_reducible refine(ebbtideref05_nodes.calls Zc t187 _ A2.out).mono ?_);rintro e w' ⟨rfl,⟨nd,rfl⟩⟩;refine⟨_,rfl,?_⟩));go_ret;exact⟨by first|rfl|(simp[errW_none,errW_some]<;>rfl)|(simp[*,errW_none,errW_some]<;>rfl),bl⟩
 rw[Yx c3] at H;have c3b0:(t187 == 0)=true:=beq_iff_eq.mpr c3;have c3b1:(t187 != 0)=false:=bne_eq_false_iff_eq.mpr c3;clear c3;by_cases c4:(Za.length:Int)>200
 ·rw[Yx c4] at H
  have c4b0:decide (200<(Za.length:Int))=true:=Yv c4;have c4b1:decide (200<Za.length)=true:=Yv (by omega);clear c4;obtain rfl:=Option.some.inj H;go_enter Try.func30,Try.ntmps30;go_wp2_with (first|(refine bx 1 24 #[.int .i64 Zc, .bool Zb, .slice Ze Za.length Zd] ?_;intro Wv hg w5 Zf hb;have Xg:=Ya (Zf);have GW186:=Ya (by rw[hg];exact(Yi HB.out):w.heap.size≤Wv);have GE186:=Ya (by rw[hg];exact(Yi HB.out):w.heap.size≤Wv);replace HB:=Ya (Yk HB.out hb);clear hb Zf hg;have hcz6_0:w5.cell? ⟨Wv,0,none⟩=some (.int .i64 Zc):=bc Xg 0;have hcz6_1:w5.cell? ⟨Wv,1,none⟩=some (.bool Zb):=bc Xg 1;have hcz6_2:w5.cell? ⟨Wv,2,none⟩=some (.slice Ze Za.length Zd):=bc Xg 2;have hfz6_0:=Yf Xg.out 0;have hfz6_1:=Yf Xg.out 1;have hfz6_2:=Yf Xg.out 2)|((with_reducible refine gate_callee (f:=62) rfl ?_);refine gl (some 8) Try.func62 #[.int .i64 Zc] ?_;(with_reducible refine(ebbtideref05_nodes.calls Zc t187 _ A2.out).mono ?_);rintro e w' ⟨rfl,⟨nd,rfl⟩⟩;refine⟨_,rfl,?_⟩));go_ret;exact⟨by first|rfl|(simp[errW_none,errW_some]<;>rfl)|(simp[*,errW_none,errW_some]<;>rfl),bl⟩
 rw[Yy c4] at H;have c4b0:decide (200<(Za.length:Int))=false:=Yw c4;have c4b1:decide (200<Za.length)=false:=Yw (by omega);clear c4;have H':=Ya H;clear H;go_enter Try.func30,Try.ntmps30;go_wp2_with (first|(refine bx 1 24 #[.int .i64 Zc, .bool Zb, .slice Ze Za.length Zd] ?_;intro Wv hg w7 Zf hb;have Xg:=Ya (Zf);have GW186:=Ya (by rw[hg];exact(Yi HB.out):w.heap.size≤Wv);have GE186:=Ya (by rw[hg];exact(Yi HB.out):w.heap.size≤Wv);replace HB:=Ya (Yk HB.out hb);clear hb Zf hg;have Uj:w7.cell? ⟨Wv,0,none⟩=some (.int .i64 Zc):=bc Xg 0;have Uk:w7.cell? ⟨Wv,1,none⟩=some (.bool Zb):=bc Xg 1;have Ja:w7.cell? ⟨Wv,2,none⟩=some (.slice Ze Za.length Zd):=bc Xg 2;have Ul:=Yf Xg.out 0;have Um:=Yf Xg.out 1;have Jb:=Yf Xg.out 2)|((with_reducible refine gate_callee (f:=62) rfl ?_);refine gl (some 8) Try.func62 #[.int .i64 Zc] ?_;(with_reducible refine(ebbtideref05_nodes.calls Zc t187 _ A2.out).mono ?_);rintro e w' ⟨rfl,⟨nd,rfl⟩⟩;refine⟨_,rfl,?_⟩));go_loopg [4] k (fun kq v4 w'=> ∃ (Xk:Int),v4= .int .i64 Xk∧Aside0 (ebbtideref05_Check.l0 kq Xk Zc Zb Za=some r)∧Aside0 (kq≤k)∧Aside0 (w'.heap[Wv]? =some (.cells #[.int .i64 Zc, .bool Zb,(.slice Ze Za.length Zd)] 24 (0,0)))∧Aside0 (Below w.heap.size w w'))
 case atStart=>exact⟨(0),(by first|rfl|(simp;done)|(simp[*];done)),H',⟨Nat.le_refl _⟩,⟨bk Xg⟩,⟨bl⟩⟩
 case round=>
  clear H';try clear c3
  try clear c3b0
  try clear c3b1
  try clear c4
  try clear c4b0
  try clear c4b1
  try clear hcz6_0
  try clear hcz6_1
  try clear hcz6_2
  try clear Uj
  try clear Uk
  try clear Ja
  try clear hfz6_0
  try clear hfz6_1
  try clear hfz6_2
  try clear Ul
  try clear Um
  try clear Jb
  obtain⟨Xk,rfl,HA,HK1,Xg,HB⟩:=hrel;cases gk with
  |zero=>exact absurd HA.out (by simp[ebbtideref05_Check.l0])
  |succ k1=>
   have H:=HA.out;clear HA;simp only[ebbtideref05_Check.l0] at H;by_cases c9:Xk<(Za.length:Int)
   rotate_left
   ·rw[Yy c9] at H
    have c9b0:decide (Xk<(Za.length:Int))=false:=Yw c9;clear c9;obtain rfl:=Option.some.inj H;have hcz19_0:wr.cell? ⟨Wv,0,none⟩=some (.int .i64 Zc):=bc Xg 0;have hcz19_1:wr.cell? ⟨Wv,1,none⟩=some (.bool Zb):=bc Xg 1;have hcz19_2:wr.cell? ⟨Wv,2,none⟩=some (.slice Ze Za.length Zd):=bc Xg 2;have hfz19_0:=Yf Xg.out 0;have hfz19_1:=Yf Xg.out 1;have hfz19_2:=Yf Xg.out 2;go_wp2;go_ret;exact⟨by first|rfl|(simp[errW_none,errW_some]<;>rfl)|(simp[*,errW_none,errW_some]<;>rfl),HB.out⟩
   rw[Yx c9] at H;have c9b0:decide (Xk<(Za.length:Int))=true:=Yv c9;clear c9;by_cases c10:0≤Xk
   rotate_left
   ·rw[Yy c10] at H
    exact absurd H (by simp)
   rw[Yx c10] at H;have c10b0:decide (0≤Xk)=true:=Yv c10;clear c10;replace H:=Option.bind_eq_some_iff.mp H;obtain⟨t189,A110,H⟩:=H;try dsimp only at H
   have A11:=Ya A110;clear A110;by_cases c12:t189=0
   rotate_left
   ·rw[Yy c12] at H
    have c12b0:(t189 == 0)=false:=beq_eq_false_iff_ne.mpr c12;have c12b1:(t189 != 0)=true:=bne_iff_ne.mpr c12;obtain rfl:=Option.some.inj H;have Jt:wr.cell? ⟨Wv,0,none⟩=some (.int .i64 Zc):=bc Xg 0;have Ju:wr.cell? ⟨Wv,1,none⟩=some (.bool Zb):=bc Xg 1;have hcz16_2:wr.cell? ⟨Wv,2,none⟩=some (.slice Ze Za.length Zd):=bc Xg 2;have Jv:=Yf Xg.out 0;have Jw:=Yf Xg.out 1;have hfz16_2:=Yf Xg.out 2;try go_wp2
    replace Xg:=Ya (Ym Xg.out);replace HB:=Ya (Yg HB.out);have p188:0≤(Xk:Int):=od;have q188:Xk<(Za.length:Int):=od;obtain⟨ad188,e188,hx188_0,hx188_1,hx188_2,hx188_3⟩:=at_T50 Zj.out Xk p188 q188;have hw188_3:=hx188_3;have hw188_2:=hx188_2;have hw188_1:=hx188_1;have hw188_0:=hx188_0;cases e188;replace hx188_0:=hc HB hx188_0;replace hx188_1:=hc HB hx188_1;replace hx188_2:=hc HB hx188_2;replace hx188_3:=hc HB hx188_3;replace p188:=eq_true p188;replace q188:=eq_true q188;refine start_ (n:=9) (S:=fun w'=>w'.cell? ⟨Wv,0,none⟩=some (.int .i64 Zc)∧w'.cell? ⟨Wv,1,none⟩=some (.bool Zb)∧w'.cell? ⟨Wv,2,none⟩=some (.slice (some ad188) Za.length Zd)∧w'.cell? (ad188.add ((Xk).toNat * 4))=some (.int .i64 ((rd_T50 Za Xk).f0))∧w'.cell? ⟨(ad188.add ((Xk).toNat * 4)).block,(ad188.add ((Xk).toNat * 4)).off+1,none⟩=some (.int .i64 ((rd_T50 Za Xk).f1))∧w'.cell? ⟨(ad188.add ((Xk).toNat * 4)).block,(ad188.add ((Xk).toNat * 4)).off+2,none⟩=some (.int .i64 ((rd_T50 Za Xk).f2))∧w'.cell? ⟨(ad188.add ((Xk).toNat * 4)).block,(ad188.add ((Xk).toNat * 4)).off+3,none⟩=some (.int .i64 ((rd_T50 Za Xk).f3))) (ds:=[]) #[false,false,false,false,false,false,false,false,false] (by kernel_rfl) rfl rfl ⟨(Yc Xg.out 0).trans rfl,(Yc Xg.out 1).trans rfl,(Yc Xg.out 2).trans rfl,((HB.out.cell (Yb w _ hw188_0)).trans hw188_0),((HB.out.cell (Yb w _ hw188_1)).trans hw188_1),((HB.out.cell (Yb w _ hw188_2)).trans hw188_2),((HB.out.cell (Yb w _ hw188_3)).trans hw188_3)⟩ (fun hHeld=> ?_);refine with_tabW ebbtideref05_Check.tab9 ebbtideref05_Check.bits9 (fun HT_ HW_=> ?_);generalize wr.drew=w17 at Xg HB hx188_0 hx188_1 hx188_2 hx188_3 hHeld ⊢;refine pu 0 23 (bm 9 1) ?_;refine pu 2 25 (bm 9 5) ?_;refine pu 4 27 (bm 9 21) ?_;refine ta 1 24 (bm 9 23) hHeld ?_;refine ta 3 26 (bm 9 31) hHeld ?_;refine pu 5 28 (bm 9 63) ?_;refine ta 6 29 (bm 9 127) hHeld ?_;refine on 7 (some 30) (bm 9 255) fun K hK=> ?_
    refine gs Try.func63 #[.int .i64 Zc, .agg #[.int .i64 ((rd_T50 Za Xk).f0), .int .i64 ((rd_T50 Za Xk).f1), .int .i64 ((rd_T50 Za Xk).f2), .int .i64 ((rd_T50 Za Xk).f3)]] ?_
    with_reducible refine(ebbtideref05_Arc.calls k1 Zc ((rd_T50 Za Xk).f0) ((rd_T50 Za Xk).f1) ((rd_T50 Za Xk).f2) ((rd_T50 Za Xk).f3) t189 _ A11.out).mono ?_
    rintro e w18 ⟨rfl,hb⟩;refine⟨_,rfl,?_⟩;replace Xg:=Ya (Yn Xg.out hb);replace HB:=Ya (Yk HB.out hb)
    (try clear hb)
    (try clear hb2)
    (try clear hk)
    (try clear hi)
    refine hK.out _ _ ⟨bc Xg 0,bc Xg 1,bc Xg 2,(hc HB hw188_0),(hc HB hw188_1),(hc HB hw188_2),(hc HB hw188_3)⟩ (fun hHeld=> ?_);clear hK K;refine nm ?_;refine pu 8 5 (bm 9 511) ?_;refine done_ (done_of HT_.out (by kernel_rfl)) ?_;try go_wp2
    go_ret;exact⟨by first|rfl|(simp[errW_none,errW_some]<;>rfl)|(simp[*,errW_none,errW_some]<;>rfl),HB.out⟩
   rw[Yx c12] at H;have c12b0:(t189 == 0)=true:=beq_iff_eq.mpr c12;have c12b1:(t189 != 0)=false:=bne_eq_false_iff_eq.mpr c12;clear c12;have H':=Ya H;clear H;have hcz13_0:wr.cell? ⟨Wv,0,none⟩=some (.int .i64 Zc):=bc Xg 0;have hcz13_1:wr.cell? ⟨Wv,1,none⟩=some (.bool Zb):=bc Xg 1;have hcz13_2:wr.cell? ⟨Wv,2,none⟩=some (.slice Ze Za.length Zd):=bc Xg 2;have hfz13_0:=Yf Xg.out 0;have hfz13_1:=Yf Xg.out 1;have hfz13_2:=Yf Xg.out 2;try go_wp2
   replace Xg:=Ya (Ym Xg.out);replace HB:=Ya (Yg HB.out);have p188:0≤(Xk:Int):=od;have q188:Xk<(Za.length:Int):=od;obtain⟨ad188,e188,hx188_0,hx188_1,hx188_2,hx188_3⟩:=at_T50 Zj.out Xk p188 q188;have hw188_3:=hx188_3;have hw188_2:=hx188_2;have hw188_1:=hx188_1;have hw188_0:=hx188_0;cases e188;replace hx188_0:=hc HB hx188_0;replace hx188_1:=hc HB hx188_1;replace hx188_2:=hc HB hx188_2;replace hx188_3:=hc HB hx188_3;replace p188:=eq_true p188;replace q188:=eq_true q188;refine start_ (n:=9) (S:=fun w'=>w'.cell? ⟨Wv,0,none⟩=some (.int .i64 Zc)∧w'.cell? ⟨Wv,1,none⟩=some (.bool Zb)∧w'.cell? ⟨Wv,2,none⟩=some (.slice (some ad188) Za.length Zd)∧w'.cell? (ad188.add ((Xk).toNat * 4))=some (.int .i64 ((rd_T50 Za Xk).f0))∧w'.cell? ⟨(ad188.add ((Xk).toNat * 4)).block,(ad188.add ((Xk).toNat * 4)).off+1,none⟩=some (.int .i64 ((rd_T50 Za Xk).f1))∧w'.cell? ⟨(ad188.add ((Xk).toNat * 4)).block,(ad188.add ((Xk).toNat * 4)).off+2,none⟩=some (.int .i64 ((rd_T50 Za Xk).f2))∧w'.cell? ⟨(ad188.add ((Xk).toNat * 4)).block,(ad188.add ((Xk).toNat * 4)).off+3,none⟩=some (.int .i64 ((rd_T50 Za Xk).f3))) (ds:=[]) #[false,false,false,false,false,false,false,false,false] (by kernel_rfl) rfl rfl ⟨(Yc Xg.out 0).trans rfl,(Yc Xg.out 1).trans rfl,(Yc Xg.out 2).trans rfl,((HB.out.cell (Yb w _ hw188_0)).trans hw188_0),((HB.out.cell (Yb w _ hw188_1)).trans hw188_1),((HB.out.cell (Yb w _ hw188_2)).trans hw188_2),((HB.out.cell (Yb w _ hw188_3)).trans hw188_3)⟩ (fun hHeld=> ?_);refine with_tabW ebbtideref05_Check.tab9 ebbtideref05_Check.bits9 (fun HT_ HW_=> ?_);generalize wr.drew=w14 at Xg HB hx188_0 hx188_1 hx188_2 hx188_3 hHeld ⊢;refine pu 0 23 (bm 9 1) ?_;refine pu 2 25 (bm 9 5) ?_;refine pu 4 27 (bm 9 21) ?_;refine ta 1 24 (bm 9 23) hHeld ?_;refine ta 3 26 (bm 9 31) hHeld ?_;refine pu 5 28 (bm 9 63) ?_;refine ta 6 29 (bm 9 127) hHeld ?_;refine on 7 (some 30) (bm 9 255) fun K hK=> ?_
   refine gs Try.func63 #[.int .i64 Zc, .agg #[.int .i64 ((rd_T50 Za Xk).f0), .int .i64 ((rd_T50 Za Xk).f1), .int .i64 ((rd_T50 Za Xk).f2), .int .i64 ((rd_T50 Za Xk).f3)]] ?_
   with_reducible refine(ebbtideref05_Arc.calls k1 Zc ((rd_T50 Za Xk).f0) ((rd_T50 Za Xk).f1) ((rd_T50 Za Xk).f2) ((rd_T50 Za Xk).f3) t189 _ A11.out).mono ?_
   rintro e w15 ⟨rfl,hb⟩;refine⟨_,rfl,?_⟩;replace Xg:=Ya (Yn Xg.out hb);replace HB:=Ya (Yk HB.out hb)
   (try clear hb)
   (try clear hb2)
   (try clear hk)
   (try clear hi)
   refine hK.out _ _ ⟨bc Xg 0,bc Xg 1,bc Xg 2,(hc HB hw188_0),(hc HB hw188_1),(hc HB hw188_2),(hc HB hw188_3)⟩ (fun hHeld=> ?_);clear hK K;refine nm ?_;refine pu 8 5 (bm 9 511) ?_;refine done_ (done_of HT_.out (by kernel_rfl)) ?_;try go_wp2
   go_roundg k1
   case measure=>have:=HK1.out;omega
   case rel=>exact⟨(wrap64 (Xk+1)),(by first|rfl|(simp;done)|(simp[*];done)),H',⟨by have:=HK1.out;omega⟩,⟨Xg.out⟩,⟨HB.out⟩⟩
end P
namespace P
attribute [local go_sem] max2_int min2_int max_two min_two max_three min_three max_four min_four
def ebbtideref07_Within.l0:Nat→List Int→Int→Int→Bool→List (S50)→Option (Bool)
 |0,_,_,_,_,_=>none
 |k+1,x1,x5,x199000,x199001,x199002=>if x5<(x1.length:Int) then(if 0≤x5 then(if (rd x1 x5)<0 then(some false) else(if x5<(x199002.length:Int) then(if (rd x1 x5)>((rd_T50 x199002 x5).f2) then(some false) else(ebbtideref07_Within.l0 k x1 (wrap64 (x5+1)) x199000 x199001 x199002)) else(none))) else(none)) else(some true)
def ebbtideref07_Within.f (k:Nat) (Zc:Int) (Zb:Bool) (Za:List (S50)) (l1:List Int):Option (Bool):=if (l1.length:Int)=(Za.length:Int) then(ebbtideref07_Within.l0 k l1 0 Zc Zb Za) else(some false)
set_option maxHeartbeats 8000000 in
set_option maxRecDepth 100000 in
theorem ebbtideref07_Within.calls (k:Nat) (Zc:Int) (Zb:Bool) (Ze:Option Addr) (Zd:Nat) (Za:List (S50)) (A1:Option Addr) (c1:Nat) (l1:List Int) (r:Bool) (w:World) (Zp:Kd.C k50 w Ze Za.length Za) (Zq:Za.length≤Zd) (hr1:Kd.C (Kd.int .i64) w A1 l1.length l1) (hc1:l1.length≤c1) (h:ebbtideref07_Within.f k Zc Zb Za l1=some r):
  Calls Try.prog 72 #[.agg #[.int .i64 Zc, .bool Zb, .slice Ze Za.length Zd], .slice A1 l1.length c1] w fun e w'=>e= .returned (.bool r)∧Below w.heap.size w w':=by
 have hu24:=Try.underlying24;have Zj:=Ya Zp;have Zs:=Ya Zq;clear Zp Zq;have HR1:=Ya hr1;have HC1:=Ya hc1;clear hr1 hc1;have HB:=Ya (Yo w.heap.size w);have H:=h;unfold ebbtideref07_Within.f at H;clear h;by_cases c3:(l1.length:Int)=(Za.length:Int)
 rotate_left
 ·rw[Yy c3] at H
  have c3b0:((l1.length:Int) == (Za.length:Int))=false:=beq_eq_false_iff_ne.mpr c3;have c3b1:((l1.length:Int) != (Za.length:Int))=true:=bne_iff_ne.mpr c3;have c3b2:(l1.length == Za.length)=false:=by first|simpa using c3|(simp at c3 ⊢;omega)
  obtain rfl:=Option.some.inj H;go_enter Try.func72,Try.ntmps72;go_wp2_with (first|(refine bx 2 24 #[.int .i64 Zc, .bool Zb, .slice Ze Za.length Zd] ?_;intro Wg hg w13 Zf hb;have Xn:=Ya (Zf);have GW198:=Ya (by rw[hg];exact(Yi HB.out):w.heap.size≤Wg);have GE198:=Ya (by rw[hg];exact(Yi HB.out):w.heap.size≤Wg);replace HB:=Ya (Yk HB.out hb);clear hb Zf hg;have Jp:w13.cell? ⟨Wg,0,none⟩=some (.int .i64 Zc):=bc Xn 0;have Jq:w13.cell? ⟨Wg,1,none⟩=some (.bool Zb):=bc Xn 1;have hcz14_2:w13.cell? ⟨Wg,2,none⟩=some (.slice Ze Za.length Zd):=bc Xn 2;have Jr:=Yf Xn.out 0;have Js:=Yf Xn.out 1;have hfz14_2:=Yf Xn.out 2));repeat(go_quiet (first|(refine bx 2 24 #[.int .i64 Zc, .bool Zb, .slice Ze Za.length Zd] ?_;intro Wg hg w13 Zf hb;have Xn:=Ya (Zf);have GW198:=Ya (by rw[hg];exact(Yi HB.out):w.heap.size≤Wg);have GE198:=Ya (by rw[hg];exact(Yi HB.out):w.heap.size≤Wg);replace HB:=Ya (Yk HB.out hb);clear hb Zf hg;have Jp:w13.cell? ⟨Wg,0,none⟩=some (.int .i64 Zc):=bc Xn 0;have Jq:w13.cell? ⟨Wg,1,none⟩=some (.bool Zb):=bc Xn 1;have hcz14_2:w13.cell? ⟨Wg,2,none⟩=some (.slice Ze Za.length Zd):=bc Xn 2;have Jr:=Yf Xn.out 0;have Js:=Yf Xn.out 1;have hfz14_2:=Yf Xn.out 2));try go_wp2_with (first|(refine bx 2 24 #[.int .i64 Zc, .bool Zb, .slice Ze Za.length Zd] ?_;intro Wg hg w13 Zf hb;have Xn:=Ya (Zf);have GW198:=Ya (by rw[hg];exact(Yi HB.out):w.heap.size≤Wg);have GE198:=Ya (by rw[hg];exact(Yi HB.out):w.heap.size≤Wg);replace HB:=Ya (Yk HB.out hb);clear hb Zf hg;have Jp:w13.cell? ⟨Wg,0,none⟩=some (.int .i64 Zc):=bc Xn 0;have Jq:w13.cell? ⟨Wg,1,none⟩=some (.bool Zb):=bc Xn 1;have hcz14_2:w13.cell? ⟨Wg,2,none⟩=some (.slice Ze Za.length Zd):=bc Xn 2;have Jr:=Yf Xn.out 0;have Js:=Yf Xn.out 1;have hfz14_2:=Yf Xn.out 2)))
  go_ret;exact⟨by first|rfl|(simp[errW_none,errW_some]<;>rfl)|(simp[*,errW_none,errW_some]<;>rfl),HB.out⟩
 rw[Yx c3] at H;have c3b0:((l1.length:Int) == (Za.length:Int))=true:=beq_iff_eq.mpr c3;have c3b1:((l1.length:Int) != (Za.length:Int))=false:=bne_eq_false_iff_eq.mpr c3;have c3b2:(l1.length == Za.length)=true:=by first|simpa using c3|(simp at c3 ⊢;omega)
 clear c3;have H':=Ya H;clear H;go_enter Try.func72,Try.ntmps72;go_wp2_with (first|(refine bx 2 24 #[.int .i64 Zc, .bool Zb, .slice Ze Za.length Zd] ?_;intro Wg hg w4 Zf hb;have Xn:=Ya (Zf);have GW198:=Ya (by rw[hg];exact(Yi HB.out):w.heap.size≤Wg);have GE198:=Ya (by rw[hg];exact(Yi HB.out):w.heap.size≤Wg);replace HB:=Ya (Yk HB.out hb);clear hb Zf hg;have hcz5_0:w4.cell? ⟨Wg,0,none⟩=some (.int .i64 Zc):=bc Xn 0;have hcz5_1:w4.cell? ⟨Wg,1,none⟩=some (.bool Zb):=bc Xn 1;have hcz5_2:w4.cell? ⟨Wg,2,none⟩=some (.slice Ze Za.length Zd):=bc Xn 2;have hfz5_0:=Yf Xn.out 0;have hfz5_1:=Yf Xn.out 1;have hfz5_2:=Yf Xn.out 2));repeat(go_quiet (first|(refine bx 2 24 #[.int .i64 Zc, .bool Zb, .slice Ze Za.length Zd] ?_;intro Wg hg w4 Zf hb;have Xn:=Ya (Zf);have GW198:=Ya (by rw[hg];exact(Yi HB.out):w.heap.size≤Wg);have GE198:=Ya (by rw[hg];exact(Yi HB.out):w.heap.size≤Wg);replace HB:=Ya (Yk HB.out hb);clear hb Zf hg;have hcz5_0:w4.cell? ⟨Wg,0,none⟩=some (.int .i64 Zc):=bc Xn 0;have hcz5_1:w4.cell? ⟨Wg,1,none⟩=some (.bool Zb):=bc Xn 1;have hcz5_2:w4.cell? ⟨Wg,2,none⟩=some (.slice Ze Za.length Zd):=bc Xn 2;have hfz5_0:=Yf Xn.out 0;have hfz5_1:=Yf Xn.out 1;have hfz5_2:=Yf Xn.out 2));try go_wp2_with (first|(refine bx 2 24 #[.int .i64 Zc, .bool Zb, .slice Ze Za.length Zd] ?_;intro Wg hg w4 Zf hb;have Xn:=Ya (Zf);have GW198:=Ya (by rw[hg];exact(Yi HB.out):w.heap.size≤Wg);have GE198:=Ya (by rw[hg];exact(Yi HB.out):w.heap.size≤Wg);replace HB:=Ya (Yk HB.out hb);clear hb Zf hg;have hcz5_0:w4.cell? ⟨Wg,0,none⟩=some (.int .i64 Zc):=bc Xn 0;have hcz5_1:w4.cell? ⟨Wg,1,none⟩=some (.bool Zb):=bc Xn 1;have hcz5_2:w4.cell? ⟨Wg,2,none⟩=some (.slice Ze Za.length Zd):=bc Xn 2;have hfz5_0:=Yf Xn.out 0;have hfz5_1:=Yf Xn.out 1;have hfz5_2:=Yf Xn.out 2)))
 go_loopg [5] k (fun kq v5 w'=> ∃ (Zl:Int),v5= .int .i64 Zl∧Aside0 (ebbtideref07_Within.l0 kq l1 Zl Zc Zb Za=some r)∧Aside0 (kq≤k)∧Aside0 (w'.heap[Wg]? =some (.cells #[.int .i64 Zc, .bool Zb,(.slice Ze Za.length Zd)] 24 (0,0)))∧Aside0 (Below w.heap.size w w'))
 case atStart=>exact⟨(0),(by first|rfl|(simp;done)|(simp[*];done)),H',⟨Nat.le_refl _⟩,⟨Xn.out⟩,⟨HB.out⟩⟩
 case round=>
  clear H';try clear c1
  try clear c3
  try clear c3b0
  try clear c3b1
  try clear c3b2
  try clear hcz5_0
  try clear hcz5_1
  try clear hcz5_2
  try clear hfz5_0
  try clear hfz5_1
  try clear hfz5_2
  obtain⟨Zl,rfl,HA,HK1,Xn,HB⟩:=hrel;cases gk with
  |zero=>exact absurd HA.out (by simp[ebbtideref07_Within.l0])
  |succ k1=>
   have H:=HA.out;clear HA;simp only[ebbtideref07_Within.l0] at H;by_cases c6:Zl<(l1.length:Int)
   rotate_left
   ·rw[Yy c6] at H
    have c6b0:decide (Zl<(l1.length:Int))=false:=Yw c6;clear c6;obtain rfl:=Option.some.inj H;go_wp2;repeat(go_quiet (fail);try go_wp2)
    go_ret;exact⟨by first|rfl|(simp[errW_none,errW_some]<;>rfl)|(simp[*,errW_none,errW_some]<;>rfl),HB.out⟩
   rw[Yx c6] at H;have c6b0:decide (Zl<(l1.length:Int))=true:=Yv c6;clear c6;by_cases c7:0≤Zl
   rotate_left
   ·rw[Yy c7] at H
    exact absurd H (by simp)
   rw[Yx c7] at H;have c7b0:decide (0≤Zl)=true:=Yv c7;clear c7;by_cases c8:(rd l1 Zl)<0
   ·rw[Yx c8] at H
    have c8b0:decide ((rd l1 Zl)<0)=true:=Yv c8;clear c8;obtain rfl:=Option.some.inj H;have p199:0≤(Zl:Int):=od;have q199:Zl<(l1.length:Int):=od;obtain⟨ad199,e199,hx199_0⟩:=Kd.at_int HR1.out Zl p199 q199;cases e199;replace hx199_0:=hc HB hx199_0;replace p199:=eq_true p199;replace q199:=eq_true q199;go_wp2;repeat(go_quiet (fail);try go_wp2)
    go_ret;exact⟨by first|rfl|(simp[errW_none,errW_some]<;>rfl)|(simp[*,errW_none,errW_some]<;>rfl),bl⟩
   rw[Yy c8] at H;have c8b0:decide ((rd l1 Zl)<0)=false:=Yw c8;clear c8;by_cases c9:Zl<(Za.length:Int)
   rotate_left
   ·rw[Yy c9] at H
    exact absurd H (by simp)
   rw[Yx c9] at H;have c9b0:decide (Zl<(Za.length:Int))=true:=Yv c9;clear c9;by_cases c10:(rd l1 Zl)>((rd_T50 Za Zl).f2)
   ·rw[Yx c10] at H
    have c10b0:decide (((rd_T50 Za Zl).f2)<(rd l1 Zl))=true:=Yv c10;clear c10;obtain rfl:=Option.some.inj H;have p199:0≤(Zl:Int):=od;have q199:Zl<(l1.length:Int):=od;obtain⟨ad199,e199,hx199_0⟩:=Kd.at_int HR1.out Zl p199 q199;cases e199;replace hx199_0:=hc HB hx199_0;replace p199:=eq_true p199;replace q199:=eq_true q199;have p200:0≤(Zl:Int):=od;have q200:Zl<(l1.length:Int):=od;obtain⟨ad200,e200,hx200_0⟩:=Kd.at_int HR1.out Zl p200 q200;obtain rfl:ad199=ad200:=(by injection e200);replace hx200_0:=hc HB hx200_0;replace p200:=eq_true p200;replace q200:=eq_true q200;have hcz11_0:wr.cell? ⟨Wg,0,none⟩=some (.int .i64 Zc):=bc Xn 0;have hcz11_1:wr.cell? ⟨Wg,1,none⟩=some (.bool Zb):=bc Xn 1;have hcz11_2:wr.cell? ⟨Wg,2,none⟩=some (.slice Ze Za.length Zd):=bc Xn 2;have hfz11_0:=Yf Xn.out 0;have hfz11_1:=Yf Xn.out 1;have hfz11_2:=Yf Xn.out 2;have p201:0≤(Zl:Int):=od;have q201:Zl<(Za.length:Int):=od;obtain⟨ad201,e201,hx201_0,hx201_1,hx201_2,hx201_3⟩:=at_T50 Zj.out Zl p201 q201;cases e201;replace hx201_0:=hc HB hx201_0;replace hx201_1:=hc HB hx201_1;replace hx201_2:=hc HB hx201_2;replace hx201_3:=hc HB hx201_3;replace p201:=eq_true p201;replace q201:=eq_true q201;go_wp2;repeat(go_quiet (fail);try go_wp2)
    go_ret;exact⟨by first|rfl|(simp[errW_none,errW_some]<;>rfl)|(simp[*,errW_none,errW_some]<;>rfl),bl⟩
   rw[Yy c10] at H;have c10b0:decide (((rd_T50 Za Zl).f2)<(rd l1 Zl))=false:=Yw c10;clear c10;have H':=Ya H;clear H;have p199:0≤(Zl:Int):=od;have q199:Zl<(l1.length:Int):=od;obtain⟨ad199,e199,hx199_0⟩:=Kd.at_int HR1.out Zl p199 q199;cases e199;replace hx199_0:=hc HB hx199_0;replace p199:=eq_true p199;replace q199:=eq_true q199;have p200:0≤(Zl:Int):=od;have q200:Zl<(l1.length:Int):=od;obtain⟨ad200,e200,hx200_0⟩:=Kd.at_int HR1.out Zl p200 q200;obtain rfl:ad199=ad200:=(by injection e200);replace hx200_0:=hc HB hx200_0;replace p200:=eq_true p200;replace q200:=eq_true q200;have hcz12_0:wr.cell? ⟨Wg,0,none⟩=some (.int .i64 Zc):=bc Xn 0;have hcz12_1:wr.cell? ⟨Wg,1,none⟩=some (.bool Zb):=bc Xn 1;have hcz12_2:wr.cell? ⟨Wg,2,none⟩=some (.slice Ze Za.length Zd):=bc Xn 2;have hfz12_0:=Yf Xn.out 0;have hfz12_1:=Yf Xn.out 1;have hfz12_2:=Yf Xn.out 2;have p201:0≤(Zl:Int):=od;have q201:Zl<(Za.length:Int):=od;obtain⟨ad201,e201,hx201_0,hx201_1,hx201_2,hx201_3⟩:=at_T50 Zj.out Zl p201 q201;cases e201;replace hx201_0:=hc HB hx201_0;replace hx201_1:=hc HB hx201_1;replace hx201_2:=hc HB hx201_2;replace hx201_3:=hc HB hx201_3;replace p201:=eq_true p201;replace q201:=eq_true q201;go_wp2;repeat(go_quiet (fail);try go_wp2)
   go_roundg k1
   case measure=>have:=HK1.out;omega
   case rel=>exact⟨(wrap64 (Zl+1)),(by first|rfl|(simp;done)|(simp[*];done)),H',⟨by have:=HK1.out;omega⟩,⟨bk Xn⟩,⟨bl⟩⟩
end P
namespace P
attribute [local go_sem] max2_int min2_int max_two min_two max_three min_three max_four min_four
def ebbtideref07_Balance.l0:Nat→List Int→List Int→Int→Int→Bool→List (S50)→Option (List Int × Int)
 |0,_,_,_,_,_,_=>none
 |k+1,x1,x7,x8,x210000,x210001,x210002=>if x8<x210000 then((ebbtideref07_Leaves.f k x210000 x210001 x210002 x1 x8).bind fun t212=>(if x7.length<17592186044416 then(ebbtideref07_Balance.l0 k x1 (x7 ++ [t212]) (wrap64 (x8+1)) x210000 x210001 x210002) else(none))) else(some (x7,0))
def ebbtideref07_Balance.f (k:Nat) (Zc:Int) (Zb:Bool) (Za:List (S50)) (l1:List Int):Option (List Int × Int):=(ebbtideref05_Check.f k Zc Zb Za).bind fun t210=>(if t210=0 then((ebbtideref07_Within.f k Zc Zb Za l1).bind fun t211=>(if t211=true then(ebbtideref07_Balance.l0 k l1 ([]:List Int) 0 Zc Zb Za) else(some (([]:List Int),71)))) else(some (([]:List Int),t210)))
set_option maxHeartbeats 8000000 in
set_option maxRecDepth 100000 in
theorem ebbtideref07_Balance.calls (k:Nat) (Zc:Int) (Zb:Bool) (Ze:Option Addr) (Zd:Nat) (Za:List (S50)) (A1:Option Addr) (c1:Nat) (l1:List Int) (r1:List Int) (r2:Int) (w:World) (Zp:Kd.C k50 w Ze Za.length Za) (Zq:Za.length≤Zd) (hr1:Kd.C (Kd.int .i64) w A1 l1.length l1) (hc1:l1.length≤c1) (h:ebbtideref07_Balance.f k Zc Zb Za l1=some (r1,r2)):
  Calls Try.prog 51 #[.agg #[.int .i64 Zc, .bool Zb, .slice Ze Za.length Zd], .slice A1 l1.length c1] w fun e w'=> ∃ v0_:Value,e= .returned (.tuple #[v0_, .int .i64 r2])∧Kd.R (Kd.int .i64) 3 w' w.heap.size (fun _=>True) v0_ r1∧Below w.heap.size w w':=by
 have hu24:=Try.underlying24;have Zj:=Ya Zp;have Zs:=Ya Zq;clear Zp Zq;have HR1:=Ya hr1;have HC1:=Ya hc1;clear hr1 hc1;have HB:=Ya (Yo w.heap.size w);have H:=h;unfold ebbtideref07_Balance.f at H;clear h;replace H:=Option.bind_eq_some_iff.mp H;obtain⟨t210,A30,H⟩:=H;try dsimp only at H
 have A3:=Ya A30;clear A30;by_cases c4:t210=0
 rotate_left
 ·rw[Yy c4] at H
  have c4b0:(t210 == 0)=false:=beq_eq_false_iff_ne.mpr c4;have c4b1:(t210 != 0)=true:=bne_iff_ne.mpr c4;simp only[Option.some.injEq,Prod.mk.injEq] at H;obtain⟨rfl,rfl⟩:=H;go_enter Try.func51,Try.ntmps51;go_wp2_with (first|(refine bx 2 24 #[.int .i64 Zc, .bool Zb, .slice Ze Za.length Zd] ?_;intro Vk hg w24 Zf hb;have Xj:=Ya (Zf);have GW209:=Ya (by rw[hg];exact(Yi HB.out):w.heap.size≤Vk);have GE209:=Ya (by rw[hg];exact(Yi HB.out):w.heap.size≤Vk);replace HB:=Ya (Yk HB.out hb);clear hb Zf hg;have hcz25_0:w24.cell? ⟨Vk,0,none⟩=some (.int .i64 Zc):=bc Xj 0;have hcz25_1:w24.cell? ⟨Vk,1,none⟩=some (.bool Zb):=bc Xj 1;have hcz25_2:w24.cell? ⟨Vk,2,none⟩=some (.slice Ze Za.length Zd):=bc Xj 2;have hfz25_0:=Yf Xj.out 0;have hfz25_1:=Yf Xj.out 1;have hfz25_2:=Yf Xj.out 2)|((with_reducible refine gate_callee (f:=30) rfl ?_);refine gl (some 10) Try.func30 #[.agg #[.int .i64 Zc, .bool Zb, .slice Ze Za.length Zd]] ?_;(with_reducible refine(ebbtideref05_Check.calls k Zc Zb _ _ Za t210 _ ?side1 ?side2 A3.out).mono ?_);(case side1=>exact kC (Yt Zj.out HB.out));(case side2=>exact Zs.out);rintro e w26 ⟨rfl,hb⟩;refine⟨_,rfl,?_⟩;replace Xj:=Ya (Yn Xj.out hb);replace HB:=Ya (Yk HB.out hb);(try clear hb)));go_ret2;exact⟨_,by first|rfl|(simp[errW_none,errW_some]<;>rfl)|(simp[*,errW_none,errW_some]<;>rfl),by first|exact Kd.R_nil _ _ _ _ _|exact Kd.N_nil _ _ _ _ _|exact Kd.V_nil _ _ _ _ _|exact Kd.Q_nil _ _ _ _ _|exact Kd.S_nil _ _ _ _ _,HB.out⟩
 rw[Yx c4] at H;have c4b0:(t210 == 0)=true:=beq_iff_eq.mpr c4;have c4b1:(t210 != 0)=false:=bne_eq_false_iff_eq.mpr c4;clear c4;replace H:=Option.bind_eq_some_iff.mp H;obtain⟨t211,A50,H⟩:=H;try dsimp only at H
 have A5:=Ya A50;clear A50;by_cases c6:t211=true
 rotate_left
 ·replace c6:=Bool.eq_false_iff.mpr c6
  subst c6;rw[Yy (show ¬ (false=true) by decide)] at H;simp only[Option.some.injEq,Prod.mk.injEq] at H;obtain⟨rfl,rfl⟩:=H;go_enter Try.func51,Try.ntmps51;go_wp2_with (first|(refine bx 2 24 #[.int .i64 Zc, .bool Zb, .slice Ze Za.length Zd] ?_;intro Vk hg w19 Zf hb;have Xj:=Ya (Zf);have GW209:=Ya (by rw[hg];exact(Yi HB.out):w.heap.size≤Vk);have GE209:=Ya (by rw[hg];exact(Yi HB.out):w.heap.size≤Vk);replace HB:=Ya (Yk HB.out hb);clear hb Zf hg;have hcz20_0:w19.cell? ⟨Vk,0,none⟩=some (.int .i64 Zc):=bc Xj 0;have hcz20_1:w19.cell? ⟨Vk,1,none⟩=some (.bool Zb):=bc Xj 1;have hcz20_2:w19.cell? ⟨Vk,2,none⟩=some (.slice Ze Za.length Zd):=bc Xj 2;have hfz20_0:=Yf Xj.out 0;have hfz20_1:=Yf Xj.out 1;have hfz20_2:=Yf Xj.out 2)|((with_reducible refine gate_callee (f:=30) rfl ?_);refine gl (some 10) Try.func30 #[.agg #[.int .i64 Zc, .bool Zb, .slice Ze Za.length Zd]] ?_;(with_reducible refine(ebbtideref05_Check.calls k Zc Zb _ _ Za t210 _ ?side1 ?side2 A3.out).mono ?_);(case side1=>exact kC (Yt Zj.out HB.out));(case side2=>exact Zs.out);rintro e w21 ⟨rfl,hb⟩;refine⟨_,rfl,?_⟩;replace Xj:=Ya (Yn Xj.out hb);replace HB:=Ya (Yk HB.out hb);(try clear hb);have hcz22_0:w21.cell? ⟨Vk,0,none⟩=some (.int .i64 Zc):=bc Xj 0;have hcz22_1:w21.cell? ⟨Vk,1,none⟩=some (.bool Zb):=bc Xj 1;have hcz22_2:w21.cell? ⟨Vk,2,none⟩=some (.slice Ze Za.length Zd):=bc Xj 2;have hfz22_0:=Yf Xj.out 0;have hfz22_1:=Yf Xj.out 1;have hfz22_2:=Yf Xj.out 2)|((with_reducible refine gate_callee (f:=72) rfl ?_);refine gl (some 16) Try.func72 #[.agg #[.int .i64 Zc, .bool Zb, .slice Ze Za.length Zd], .slice A1 l1.length c1] ?_;(with_reducible refine(ebbtideref07_Within.calls k Zc Zb _ _ Za _ _ l1 false _ ?side1 ?side2 ?side3 ?side4 A5.out).mono ?_);(case side1=>exact kC (Yt Zj.out HB.out));(case side2=>exact Zs.out);(case side3=>exact kC (Yt HR1.out HB.out));(case side4=>exact HC1.out);rintro e w23 ⟨rfl,hb⟩;refine⟨_,rfl,?_⟩;replace Xj:=Ya (Yn Xj.out hb);replace HB:=Ya (Yk HB.out hb);(try clear hb);(try clear hb2);(try clear hk);(try clear hi)));go_ret2;exact⟨_,by first|rfl|(simp[errW_none,errW_some]<;>rfl)|(simp[*,errW_none,errW_some]<;>rfl),by first|exact Kd.R_nil _ _ _ _ _|exact Kd.N_nil _ _ _ _ _|exact Kd.V_nil _ _ _ _ _|exact Kd.Q_nil _ _ _ _ _|exact Kd.S_nil _ _ _ _ _,HB.out⟩
 subst c6;first|rw[Yx rfl] at H|rw[Yx trivial] at H
 have H':=Ya H;clear H;go_enter Try.func51,Try.ntmps51;go_wp2_with (first|(refine bx 2 24 #[.int .i64 Zc, .bool Zb, .slice Ze Za.length Zd] ?_;intro Vk hg w7 Zf hb;have Xj:=Ya (Zf);have GW209:=Ya (by rw[hg];exact(Yi HB.out):w.heap.size≤Vk);have GE209:=Ya (by rw[hg];exact(Yi HB.out):w.heap.size≤Vk);replace HB:=Ya (Yk HB.out hb);clear hb Zf hg;have Uj:w7.cell? ⟨Vk,0,none⟩=some (.int .i64 Zc):=bc Xj 0;have Uk:w7.cell? ⟨Vk,1,none⟩=some (.bool Zb):=bc Xj 1;have Ja:w7.cell? ⟨Vk,2,none⟩=some (.slice Ze Za.length Zd):=bc Xj 2;have Ul:=Yf Xj.out 0;have Um:=Yf Xj.out 1;have Jb:=Yf Xj.out 2)|((with_reducible refine gate_callee (f:=30) rfl ?_);refine gl (some 10) Try.func30 #[.agg #[.int .i64 Zc, .bool Zb, .slice Ze Za.length Zd]] ?_;(with_reducible refine(ebbtideref05_Check.calls k Zc Zb _ _ Za t210 _ ?side1 ?side2 A3.out).mono ?_);(case side1=>exact kC (Yt Zj.out HB.out));(case side2=>exact Zs.out);rintro e w9 ⟨rfl,hb⟩;refine⟨_,rfl,?_⟩;replace Xj:=Ya (Yn Xj.out hb);replace HB:=Ya (Yk HB.out hb);(try clear hb);have Va:w9.cell? ⟨Vk,0,none⟩=some (.int .i64 Zc):=bc Xj 0;have Vb:w9.cell? ⟨Vk,1,none⟩=some (.bool Zb):=bc Xj 1;have Vr:w9.cell? ⟨Vk,2,none⟩=some (.slice Ze Za.length Zd):=bc Xj 2;have Vc:=Yf Xj.out 0;have Vd:=Yf Xj.out 1;have Vs:=Yf Xj.out 2)|((with_reducible refine gate_callee (f:=72) rfl ?_);refine gl (some 16) Try.func72 #[.agg #[.int .i64 Zc, .bool Zb, .slice Ze Za.length Zd], .slice A1 l1.length c1] ?_;(with_reducible refine(ebbtideref07_Within.calls k Zc Zb _ _ Za _ _ l1 true _ ?side1 ?side2 ?side3 ?side4 A5.out).mono ?_);(case side1=>exact kC (Yt Zj.out HB.out));(case side2=>exact Zs.out);(case side3=>exact kC (Yt HR1.out HB.out));(case side4=>exact HC1.out);rintro e w11 ⟨rfl,hb⟩;refine⟨_,rfl,?_⟩;replace Xj:=Ya (Yn Xj.out hb);replace HB:=Ya (Yk HB.out hb);(try clear hb);(try clear hb2);(try clear hk);(try clear hi)));go_loopg [7,8] k (fun kq v7 v8 w'=> ∃ (Xc:List Int) (Zi:Int),v8= .int .i64 Zi∧Aside0 (ebbtideref07_Balance.l0 kq l1 Xc Zi Zc Zb Za=some (r1,r2))∧Aside0 (kq≤k)∧Aside0 (Kd.R (Kd.int .i64) 3 w' w.heap.size (fun _=>True) v7 Xc)∧Aside0 (w'.heap[Vk]? =some (.cells #[.int .i64 Zc, .bool Zb,(.slice Ze Za.length Zd)] 24 (0,0)))∧Aside0 (Below w.heap.size w w'))
 case atStart=>exact⟨(([]:List Int)),(0),(by first|rfl|(simp;done)|(simp[*];done)),H',⟨Nat.le_refl _⟩,⟨by first|exact Kd.R_nil _ _ _ _ _|exact Kd.N_nil _ _ _ _ _|exact Kd.V_nil _ _ _ _ _|exact Kd.Q_nil _ _ _ _ _|exact Kd.S_nil _ _ _ _ _⟩,⟨Xj.out⟩,⟨HB.out⟩⟩
 case round=>
  clear H';try clear c1
  try clear c4
  try clear c4b0
  try clear c4b1
  try clear c6
  try clear Va
  try clear Vb
  try clear Vr
  try clear Uj
  try clear Uk
  try clear Ja
  try clear Vc
  try clear Vd
  try clear Vs
  try clear Ul
  try clear Um
  try clear Jb
  obtain⟨Xc,Zi,rfl,HA,HK1,HO_7,Xj,HB⟩:=hrel;cases gk with
  |zero=>exact absurd HA.out (by simp[ebbtideref07_Balance.l0])
  |succ k1=>
   have H:=HA.out;clear HA;simp only[ebbtideref07_Balance.l0] at H;by_cases c12:Zi<Zc
   rotate_left
   ·rw[Yy c12] at H
    have c12b0:decide (Zi<Zc)=false:=Yw c12;clear c12;simp only[Option.some.injEq,Prod.mk.injEq] at H;obtain⟨rfl,rfl⟩:=H;have hcz18_0:wr.cell? ⟨Vk,0,none⟩=some (.int .i64 Zc):=bc Xj 0;have hcz18_1:wr.cell? ⟨Vk,1,none⟩=some (.bool Zb):=bc Xj 1;have hcz18_2:wr.cell? ⟨Vk,2,none⟩=some (.slice Ze Za.length Zd):=bc Xj 2;have hfz18_0:=Yf Xj.out 0;have hfz18_1:=Yf Xj.out 1;have hfz18_2:=Yf Xj.out 2;go_wp2;go_ret2;exact⟨_,by first|rfl|(simp[errW_none,errW_some]<;>rfl)|(simp[*,errW_none,errW_some]<;>rfl),by(with_reducible repeat(first|apply Yr|apply Yq|apply Yp));exact HO_7.out,HB.out⟩
   rw[Yx c12] at H;have c12b0:decide (Zi<Zc)=true:=Yv c12;clear c12;replace H:=Option.bind_eq_some_iff.mp H;obtain⟨t212,A130,H⟩:=H;try dsimp only at H
   have A13:=Ya A130;clear A130;by_cases c14:Xc.length<17592186044416
   rotate_left
   ·rw[Yy c14] at H
    exact absurd H (by simp)
   rw[Yx c14] at H;have LMc14:=Ya c14;clear c14;obtain⟨y213,hy213⟩: ∃ y_:List Int,y_=(Xc ++ [t212]):=⟨_,rfl⟩;rw[← hy213] at H;have Ny213:=Ya hy213;clear hy213;have H':=Ya H;clear H;have hcz15_0:wr.cell? ⟨Vk,0,none⟩=some (.int .i64 Zc):=bc Xj 0;have hcz15_1:wr.cell? ⟨Vk,1,none⟩=some (.bool Zb):=bc Xj 1;have hcz15_2:wr.cell? ⟨Vk,2,none⟩=some (.slice Ze Za.length Zd):=bc Xj 2;have hfz15_0:=Yf Xj.out 0;have hfz15_1:=Yf Xj.out 1;have hfz15_2:=Yf Xj.out 2;go_wp2_with (first|((with_reducible refine gate_callee (f:=76) rfl ?_);refine gl (some 28) Try.func76 #[.agg #[.int .i64 Zc, .bool Zb, .slice Ze Za.length Zd], .slice A1 l1.length c1, .int .i64 Zi] ?_;(with_reducible refine(ebbtideref07_Leaves.calls k1 Zc Zb _ _ Za _ _ l1 Zi t212 _ ?side1 ?side2 ?side3 ?side4 A13.out).mono ?_);(case side1=>exact kC (Yt Zj.out HB.out));(case side2=>exact Zs.out);(case side3=>exact kC (Yt HR1.out HB.out));(case side4=>exact HC1.out);rintro e w16 ⟨rfl,hb⟩;refine⟨_,rfl,?_⟩;replace HO_7:=Ya (Ys HO_7.out hb);replace Xj:=Ya (Yn Xj.out hb);replace HB:=Ya (Yk HB.out hb);(try clear hb))|((with_reducible refine gate_builtin (b:= .append) (xs:= #[.tmp 24, .tmp 29]) rfl ?_);at_builtin;refine Kd.R_append (Kd.int .i64) (w0:=w) w.heap.size rfl (.tmp 24) (.tmp 29) 31 3 (.int .i64 0) 8 rfl Try.underlying31 info3 rfl (by decide) (by omega) u7 Xc t212 [.int .i64 t212] (fun _=>True) (fun _=>False) rfl rfl ?aP (fun _ hk=>hk.elim) ?aF ?aO ?aB ?aS ?aL ?_;(case aP=>exact rfl);(case aB=>exact HB.out);(case aF=>exact(fun _ _=>trivial));(case aO=>exact HO_7.out);(case aS=>exact(Yi HB.out));(case aL=>have:=LMc14.out;omega);intro v214 w17 ho hb hg hat;rw[← Ny213.out] at ho;replace Xj:=Ya (blk_grown Xj.out hg (Kd.R_ne HO_7.out Xj.out (by decide)));replace HB:=Ya (hb);have HO215:=Ya (ho);clear HO_7;clear ho hb hg hat));go_roundg k1
   case measure=>have:=HK1.out;omega
   case rel=>exact⟨(y213),(wrap64 (Zi+1)),(by first|rfl|(simp;done)|(simp[*];done)),H',⟨by have:=HK1.out;omega⟩,⟨HO215.out⟩,⟨Xj.out⟩,⟨HB.out⟩⟩
end P
namespace Q
open P
def arcErr (n:Int) (a:S50):Int:=
 if a.f0<0∨a.f1<0∨a.f2<0∨a.f3<0∨n≤a.f0∨n≤a.f1 then 51 else if 1048576<a.f2∨1048576<a.f3 then 2 else 0
def arcsErr (n:Int):List S50→Int
 |[]=>0
 |a::l=>if arcErr n a=0 then arcsErr n l else arcErr n a
def netErr (n:Int) (l:List S50):Int:=if n<1 then 51 else if n>50 then 2 else if (l.length:Int)>200 then 2 else arcsErr n l
structure ArcOk (n:Int) (a:S50):Prop where
 f0:0≤a.f0
 f1:0≤a.f1
 f2:0≤a.f2
 f3:0≤a.f3
 h0:a.f0<n
 h1:a.f1<n
 h2:a.f2≤1048576
 h3:a.f3≤1048576
structure NetOk (n:Int) (l:List S50):Prop where
 lo:1≤n
 hi:n≤50
 len:l.length≤200
 arcs: ∀ a∈l,ArcOk n a
theorem arcErr_ok {n:Int} {a:S50} (h:arcErr n a=0):ArcOk n a:=by
 unfold arcErr at h;split at h
 ·omega
 ·split at h
  ·omega
  ·constructor<;>omega
theorem arcsErr_ok {n:Int} : ∀ {l:List S50},arcsErr n l=0→ ∀ a∈l,ArcOk n a
 |[],_,a,ha=>by cases ha
 |b::l,h,a,ha=>by
  unfold arcsErr at h;split at h
  ·rename_i hb
   rcases List.mem_cons.1 ha with rfl|ha
   ·exact arcErr_ok hb
   ·exact arcsErr_ok h a ha
  ·exact absurd h (by assumption)
theorem netErr_ok {n:Int} {l:List S50} (h:netErr n l=0):NetOk n l:=by
 unfold netErr at h;split at h
 ·omega
 ·split at h
  ·omega
  ·split at h
   ·omega
   ·exact⟨by omega,by omega,by omega,arcsErr_ok h⟩
theorem arcOk_err {n:Int} {a:S50} (h:ArcOk n a):arcErr n a=0:=by
 have:=h.f0;have:=h.f1;have:=h.f2;have:=h.f3;have:=h.h0;have:=h.h1;have:=h.h2;have:=h.h3;unfold arcErr;rw[Yy (by omega),Yy (by omega)]
theorem arcsOk_err {n:Int} : ∀ {l:List S50},(∀ a∈l,ArcOk n a)→arcsErr n l=0
 |[],_=>rfl
 |b::l,h=>by
  unfold arcsErr;rw[Yx (arcOk_err (h b (List.mem_cons_self ..)))];exact arcsOk_err fun a ha=>h a (List.mem_cons_of_mem _ ha)
theorem netOk_err {n:Int} {l:List S50} (h:NetOk n l):netErr n l=0:=by
 have:=h.lo;have:=h.hi;have:=h.len;unfold netErr;rw[Yy (by omega),Yy (by omega),Yy (by omega),arcsOk_err h.arcs]
theorem NetOk.at_ {n:Int} {l:List S50} (h:NetOk n l) {i:Int} (h0:0≤i) (h1:i<l.length):ArcOk n (rd_T50 l i):=h.arcs _ (getD_mem (by omega))
theorem nodes_eq (n:Int):netfmt_nodes.f n=some (if n<1 then 51 else if n>50 then 2 else 0):=by
 unfold netfmt_nodes.f;split
 ·rfl
 ·split<;>rfl
theorem arc_ev (n:Int) (a:S50):Ev (fun k=>netfmt_arc.f k n a.f0 a.f1 a.f2 a.f3) (arcErr n a):=by
 unfold netfmt_arc.f arcErr;refine Ev.ite (fun h=> ?_) (fun h=> ?_)
 ·refine Ev.succ ?_;simp only[netfmt_arc.j0]
  repeat(first|exact Ev.now _|with_reducible refine Ev.pos (by first|assumption|omega) ?_|with_reducible refine Ev.neg (by first|assumption|omega) ?_|with_reducible refine Ev.let_ ?_)
  exact Ev.done (by unfold mn at h;rw[Yx (by omega)])
 ·refine Ev.succ ?_;simp only[netfmt_arc.j0]
  unfold mn at h;unfold mx;refine Ev.ite (fun g=> ?_) (fun g=> ?_)
  ·have g:=Yu g
   exact Ev.done (by rw[Yx (by omega)])
  ·have g:=of_decide_eq_false (Bool.eq_false_iff.2 g)
   refine Ev.ite (fun g1=> ?_) (fun g1=> ?_)
   ·exact Ev.done (by rw[Yy (by omega),Yx (by omega)])
   ·refine Ev.ite (fun g2=> ?_) (fun g2=> ?_)
    ·exact Ev.done (by rw[Yy (by omega),Yx (by omega)])
    ·exact Ev.done (by rw[Yy (by omega),Yy (by omega)])
theorem check_l0 (l:List S50) (n:Int) (b:Bool) (hl:l.length≤9223372036854775807) (d:Nat): ∀ i:Nat,i+d=l.length→
  Ev (fun k=>netfmt_Check.l0 k l (l.length:Int) (i:Int) n b l) (arcsErr n (l.drop i)):=by
 induction d with
 |zero=>
  intro i hi;refine Ev.succ ?_;simp only[netfmt_Check.l0];repeat(first|exact Ev.now _|with_reducible refine Ev.pos (by first|assumption|omega) ?_|with_reducible refine Ev.neg (by first|assumption|omega) ?_|with_reducible refine Ev.let_ ?_)
  rw[List.drop_of_length_le (by omega)];exact Ev.now _
 |succ d ih=>
  intro i hi;refine Ev.succ ?_;simp only[netfmt_Check.l0];repeat(first|exact Ev.now _|with_reducible refine Ev.pos (by first|assumption|omega) ?_|with_reducible refine Ev.neg (by first|assumption|omega) ?_|with_reducible refine Ev.let_ ?_)
  refine Ev.bind (arc_ev n (rd_T50 l i)) ?_;rw[drop_getD l i z50 (by omega)];have hr:rd_T50 l (i:Int)=l.getD i z50:=by unfold rd_T50;rw[Int.toNat_natCast]
  rw[hr];unfold arcsErr;refine Ev.ite (fun h=> ?_) (fun h=> ?_)
  ·rw[Yx h,wrap_succ (n:=l.length) (by omega) hl]
   exact ih (i+1) (by omega)
  ·rw[Yy h]
   exact Ev.now _
theorem check_ev (n:Int) (b:Bool) (l:List S50):Ev (fun k=>netfmt_Check.f k n b l) (netErr n l):=by
 unfold netfmt_Check.f netErr;refine Ev.call (nodes_eq n) ?_;by_cases h:n<1
 ·rw[Yx h,Yx h]
  repeat(first|exact Ev.now _|with_reducible refine Ev.pos (by first|assumption|omega) ?_|with_reducible refine Ev.neg (by first|assumption|omega) ?_|with_reducible refine Ev.let_ ?_)
 ·rw[Yy h,Yy h]
  by_cases h2:n>50
  ·rw[Yx h2,Yx h2]
   repeat(first|exact Ev.now _|with_reducible refine Ev.pos (by first|assumption|omega) ?_|with_reducible refine Ev.neg (by first|assumption|omega) ?_|with_reducible refine Ev.let_ ?_)
  ·rw[Yy h2,Yy h2]
   repeat(first|exact Ev.now _|with_reducible refine Ev.pos (by first|assumption|omega) ?_|with_reducible refine Ev.neg (by first|assumption|omega) ?_|with_reducible refine Ev.let_ ?_)
   refine Ev.ite (fun g=> ?_) (fun g=> ?_)
   ·rw[Yx g]
    exact Ev.now _
   ·rw[Yy g]
    exact check_l0 l n b (by omega) l.length 0 (by omega)
theorem ref_nodes_eq (n:Int):ebbtideref05_nodes.f n=some (if n<1 then 51 else if n>50 then 2 else 0):=by
 unfold ebbtideref05_nodes.f;split
 ·rfl
 ·split<;>rfl
theorem ref_arc_j0 (x:Bool) (n:Int) (a:S50) (hx:x=true↔a.f0<0∨a.f1<0∨a.f2<0∨a.f3<0∨n≤a.f0∨n≤a.f1):Ev (fun k=>ebbtideref05_Arc.j0 k x a.f0 a.f1 a.f2 a.f3) (arcErr n a):=by
 unfold arcErr;refine Ev.succ ?_;simp only[ebbtideref05_Arc.j0];refine Ev.ite (fun g=> ?_) (fun g=> ?_)
 ·exact Ev.done (by rw[Yx (hx.1 g)])
 ·have g':=fun h=>g (hx.2 h)
  refine Ev.ite (fun g1=> ?_) (fun g1=> ?_)
  ·exact Ev.done (by rw[Yy g',Yx (by omega)])
  ·refine Ev.ite (fun g2=> ?_) (fun g2=> ?_)
   ·exact Ev.done (by rw[Yy g',Yx (by omega)])
   ·exact Ev.done (by rw[Yy g',Yy (by omega)])
theorem ref_arc_ev (n:Int) (a:S50):Ev (fun k=>ebbtideref05_Arc.f k n a.f0 a.f1 a.f2 a.f3) (arcErr n a):=by
 unfold ebbtideref05_Arc.f;refine Ev.ite (fun h=> ?_) (fun h=> ?_)
 ·exact ref_arc_j0 _ _ _ ⟨fun _=>by omega,fun _=>rfl⟩
 refine Ev.ite (fun h=> ?_) (fun h=> ?_)
 ·exact ref_arc_j0 _ _ _ ⟨fun _=>by omega,fun _=>rfl⟩
 refine Ev.ite (fun h=> ?_) (fun h=> ?_)
 ·exact ref_arc_j0 _ _ _ ⟨fun _=>by omega,fun _=>rfl⟩
 refine Ev.ite (fun h=> ?_) (fun h=> ?_)
 ·exact ref_arc_j0 _ _ _ ⟨fun _=>by omega,fun _=>rfl⟩
 refine Ev.ite (fun h=> ?_) (fun h=> ?_)
 ·exact ref_arc_j0 _ _ _ ⟨fun _=>by omega,fun _=>rfl⟩
 ·exact ref_arc_j0 _ _ _ ⟨fun g=>by have:=Yu g;omega,fun g=>Yv (by omega)⟩
theorem ref_check_l0 (l:List S50) (n:Int) (b:Bool) (hl:l.length≤9223372036854775807) (d:Nat): ∀ i:Nat,i+d=l.length→
  Ev (fun k=>ebbtideref05_Check.l0 k (i:Int) n b l) (arcsErr n (l.drop i)):=by
 induction d with
 |zero=>
  intro i hi;refine Ev.succ ?_;simp only[ebbtideref05_Check.l0];repeat(first|exact Ev.now _|with_reducible refine Ev.pos (by first|assumption|omega) ?_|with_reducible refine Ev.neg (by first|assumption|omega) ?_|with_reducible refine Ev.let_ ?_)
  rw[List.drop_of_length_le (by omega)];exact Ev.now _
 |succ d ih=>
  intro i hi;refine Ev.succ ?_;simp only[ebbtideref05_Check.l0];repeat(first|exact Ev.now _|with_reducible refine Ev.pos (by first|assumption|omega) ?_|with_reducible refine Ev.neg (by first|assumption|omega) ?_|with_reducible refine Ev.let_ ?_)
  refine Ev.bind (ref_arc_ev n (rd_T50 l i)) ?_;rw[drop_getD l i z50 (by omega)];have hr:rd_T50 l (i:Int)=l.getD i z50:=by unfold rd_T50;rw[Int.toNat_natCast]
  rw[hr];unfold arcsErr;refine Ev.ite (fun h=> ?_) (fun h=> ?_)
  ·rw[Yx h,wrap_succ (n:=l.length) (by omega) hl]
   exact ih (i+1) (by omega)
  ·rw[Yy h]
   exact Ev.now _
theorem ref_check_ev (n:Int) (b:Bool) (l:List S50):Ev (fun k=>ebbtideref05_Check.f k n b l) (netErr n l):=by
 unfold ebbtideref05_Check.f netErr;refine Ev.call (ref_nodes_eq n) ?_;by_cases h:n<1
 ·rw[Yx h,Yx h]
  repeat(first|exact Ev.now _|with_reducible refine Ev.pos (by first|assumption|omega) ?_|with_reducible refine Ev.neg (by first|assumption|omega) ?_|with_reducible refine Ev.let_ ?_)
 ·rw[Yy h,Yy h]
  by_cases h2:n>50
  ·rw[Yx h2,Yx h2]
   repeat(first|exact Ev.now _|with_reducible refine Ev.pos (by first|assumption|omega) ?_|with_reducible refine Ev.neg (by first|assumption|omega) ?_|with_reducible refine Ev.let_ ?_)
  ·rw[Yy h2,Yy h2]
   repeat(first|exact Ev.now _|with_reducible refine Ev.pos (by first|assumption|omega) ?_|with_reducible refine Ev.neg (by first|assumption|omega) ?_|with_reducible refine Ev.let_ ?_)
   refine Ev.ite (fun g=> ?_) (fun g=> ?_)
   ·rw[Yx g]
    exact Ev.now _
   ·rw[Yy g]
    exact ref_check_l0 l n b (by omega) l.length 0 (by omega)
end Q
namespace P
attribute [local go_sem] max2_int min2_int max_two min_two max_three min_three max_four min_four
def ebbtideref06_Node.f (Zc:Int) (Zb:Bool) (Za:List (S50)) (a1:Int):Option (Bool):=if a1≥0 then(some (decide (a1<Zc))) else(some false)
set_option maxHeartbeats 8000000 in
set_option maxRecDepth 100000 in
theorem ebbtideref06_Node.calls (Zc:Int) (Zb:Bool) (Ze:Option Addr) (Zd:Nat) (Za:List (S50)) (a1:Int) (r:Bool) (w:World) (Zp:Kd.C k50 w Ze Za.length Za) (Zq:Za.length≤Zd) (h:ebbtideref06_Node.f Zc Zb Za a1=some r):
  Calls Try.prog 58 #[.agg #[.int .i64 Zc, .bool Zb, .slice Ze Za.length Zd], .int .i64 a1] w fun e w'=>e= .returned (.bool r)∧Below w.heap.size w w':=by
 have hu24:=Try.underlying24;have Zj:=Ya Zp;have Zs:=Ya Zq;clear Zp Zq;have HB:=Ya (Yo w.heap.size w);have H:=h;unfold ebbtideref06_Node.f at H;clear h;by_cases c3:a1≥0
 rotate_left
 ·rw[Yy c3] at H
  have c3b0:decide (0≤a1)=false:=Yw c3;clear c3;obtain rfl:=Option.some.inj H;go_enter Try.func58,Try.ntmps58;go_wp2_with (first|(refine bx 2 24 #[.int .i64 Zc, .bool Zb, .slice Ze Za.length Zd] ?_;intro gb190 hg w6 Zf hb;have BK190:=Ya (Zf);have GW190:=Ya ((sz hg));have GE190:=Ya ((sz hg));replace HB:=Ya (Yk bl hb);clear hb Zf hg));go_ret;exact⟨by first|rfl|(simp[errW_none,errW_some]<;>rfl)|(simp[*,errW_none,errW_some]<;>rfl),HB.out⟩
 rw[Yx c3] at H;have c3b0:decide (0≤a1)=true:=Yv c3;clear c3;obtain rfl:=Option.some.inj H;go_enter Try.func58,Try.ntmps58;go_wp2_with (first|(refine bx 2 24 #[.int .i64 Zc, .bool Zb, .slice Ze Za.length Zd] ?_;intro gb190 hg w4 Zf hb;have BK190:=Ya (Zf);have GW190:=Ya ((sz hg));have GE190:=Ya ((sz hg));replace HB:=Ya (Yk bl hb);clear hb Zf hg;have hcz5_0:w4.cell? ⟨gb190,0,none⟩=some (.int .i64 Zc):=bc BK190 0;have hcz5_1:w4.cell? ⟨gb190,1,none⟩=some (.bool Zb):=bc BK190 1;have hcz5_2:w4.cell? ⟨gb190,2,none⟩=some (.slice Ze Za.length Zd):=bc BK190 2;have hfz5_0:=Yf BK190.out 0;have hfz5_1:=Yf BK190.out 1;have hfz5_2:=Yf BK190.out 2));go_ret;exact⟨by first|rfl|(simp[errW_none,errW_some]<;>rfl)|(simp[*,errW_none,errW_some]<;>rfl),HB.out⟩
end P
namespace P
attribute [local go_sem] max2_int min2_int max_two min_two max_three min_three max_four min_four
def ebbtideref03_SameInts.l0:Nat→List Int→List Int→Int→Option (Bool)
 |0,_,_,_=>none
 |k+1,x0,x1,x5=>if x5<(x0.length:Int) then(if 0≤x5 then(if x5<(x1.length:Int) then(if (rd x0 x5)=(rd x1 x5) then(ebbtideref03_SameInts.l0 k x0 x1 (wrap64 (x5+1))) else(some false)) else(none)) else(none)) else(some true)
def ebbtideref03_SameInts.f (k:Nat) (l0:List Int) (l1:List Int):Option (Bool):=if (l0.length:Int)=(l1.length:Int) then(ebbtideref03_SameInts.l0 k l0 l1 0) else(some false)
theorem ebbtideref03_SameInts.mono_l: ∀ k,(∀ y0 y1 y2,LeO (ebbtideref03_SameInts.l0 k y0 y1 y2) (ebbtideref03_SameInts.l0 (k+1) y0 y1 y2))
 |0=>fun _ _ _ r h=>by simp[ebbtideref03_SameInts.l0] at h
 |k+1=>by
  have ih0:=ebbtideref03_SameInts.mono_l k
  ·intro y0 y1 y2
   unfold ebbtideref03_SameInts.l0;repeat' first
   |(with_reducible exact ih0 _ _ _)
   |(with_reducible exact LeO.refl _)
   |(with_reducible exact LeO.none _)
   |(with_reducible refine LeO.ite ?_ ?_)
   |(with_reducible refine LeO.bind ?_ (fun _=> ?_))
   |refine LeO.ite ?_ ?_
   |refine LeO.bind ?_ (fun _=> ?_)
theorem ebbtideref03_SameInts.mono: ∀ a0 a1 k,LeO (ebbtideref03_SameInts.f k a0 a1) (ebbtideref03_SameInts.f (k+1) a0 a1):=by
 intro a0 a1 k;have ih0:=ebbtideref03_SameInts.mono_l k;unfold ebbtideref03_SameInts.f;repeat' first
   |(with_reducible exact ih0 _ _ _)
   |(with_reducible exact LeO.refl _)
   |(with_reducible exact LeO.none _)
   |(with_reducible refine LeO.ite ?_ ?_)
   |(with_reducible refine LeO.bind ?_ (fun _=> ?_))
   |refine LeO.ite ?_ ?_
   |refine LeO.bind ?_ (fun _=> ?_)
set_option maxHeartbeats 8000000 in
set_option maxRecDepth 100000 in
theorem ebbtideref03_SameInts.calls (k:Nat) (A0:Option Addr) (c0:Nat) (l0:List Int) (A1:Option Addr) (c1:Nat) (l1:List Int) (r:Bool) (w:World) (hr0:Kd.C (Kd.int .i64) w A0 l0.length l0) (hc0:l0.length≤c0) (hr1:Kd.C (Kd.int .i64) w A1 l1.length l1) (hc1:l1.length≤c1) (h:ebbtideref03_SameInts.f k l0 l1=some r):
  Calls Try.prog 22 #[.slice A0 l0.length c0, .slice A1 l1.length c1] w fun e w'=>e= .returned (.bool r)∧Drawn0 w w':=by
 have HR0:=Ya hr0;have HC0:=Ya hc0;clear hr0 hc0;have HR1:=Ya hr1;have HC1:=Ya hc1;clear hr1 hc1;have H:=h;unfold ebbtideref03_SameInts.f at H;clear h;by_cases c3:(l0.length:Int)=(l1.length:Int)
 rotate_left
 ·rw[Yy c3] at H
  have c3b0:((l0.length:Int) == (l1.length:Int))=false:=beq_eq_false_iff_ne.mpr c3;have c3b1:((l0.length:Int) != (l1.length:Int))=true:=bne_iff_ne.mpr c3;have c3b2:(l0.length == l1.length)=false:=by first|simpa using c3|(simp at c3 ⊢;omega)
  obtain rfl:=Option.some.inj H;go_enter Try.func22,Try.ntmps22;go_wp2;repeat(go_quiet (fail);try go_wp2)
  go_ret;exact⟨by first|rfl|(simp;done)|(simp[*];done),by repeat(first|exact Drawn0.refl _|apply Drawn0.step)⟩
 rw[Yx c3] at H;have c3b0:((l0.length:Int) == (l1.length:Int))=true:=beq_iff_eq.mpr c3;have c3b1:((l0.length:Int) != (l1.length:Int))=false:=bne_eq_false_iff_eq.mpr c3;have c3b2:(l0.length == l1.length)=true:=by first|simpa using c3|(simp at c3 ⊢;omega)
 clear c3;have H':=Ya H;clear H;go_enter Try.func22,Try.ntmps22;go_wp2;repeat(go_quiet (fail);try go_wp2)
 go_loopg [5] k (fun kq v5 w'=> ∃ (Zl:Int),v5= .int .i64 Zl∧Aside0 (ebbtideref03_SameInts.l0 kq l0 l1 Zl=some r)∧Aside0 (kq≤k)∧Drawn0 w w')
 case atStart=>exact⟨(0),(by first|rfl|(simp;done)|(simp[*];done)),H',⟨Nat.le_refl _⟩,by repeat(first|exact Drawn0.refl _|apply Drawn0.step)⟩
 case round=>
  clear H';try clear c1
  try clear c3
  try clear c3b0
  try clear c3b1
  try clear c3b2
  obtain⟨Zl,rfl,HA,HK1,⟨m1,rfl⟩⟩:=hrel;cases gk with
  |zero=>exact absurd HA.out (by simp[ebbtideref03_SameInts.l0])
  |succ k1=>
   have H:=HA.out;clear HA;simp only[ebbtideref03_SameInts.l0] at H;by_cases c4:Zl<(l0.length:Int)
   rotate_left
   ·rw[Yy c4] at H
    have c4b0:decide (Zl<(l0.length:Int))=false:=Yw c4;clear c4;obtain rfl:=Option.some.inj H;go_wp2;repeat(go_quiet (fail);try go_wp2)
    go_ret;exact⟨by first|rfl|(simp;done)|(simp[*];done),by repeat(first|exact Drawn0.refl _|apply Drawn0.step)⟩
   rw[Yx c4] at H;have c4b0:decide (Zl<(l0.length:Int))=true:=Yv c4;clear c4;by_cases c5:0≤Zl
   rotate_left
   ·rw[Yy c5] at H
    exact absurd H (by simp)
   rw[Yx c5] at H;have c5b0:decide (0≤Zl)=true:=Yv c5;clear c5;by_cases c6:Zl<(l1.length:Int)
   rotate_left
   ·rw[Yy c6] at H
    exact absurd H (by simp)
   rw[Yx c6] at H;have c6b0:decide (Zl<(l1.length:Int))=true:=Yv c6;clear c6;by_cases c7:(rd l0 Zl)=(rd l1 Zl)
   rotate_left
   ·rw[Yy c7] at H
    have c7b0:((rd l0 Zl) == (rd l1 Zl))=false:=beq_eq_false_iff_ne.mpr c7;have c7b1:((rd l0 Zl) != (rd l1 Zl))=true:=bne_iff_ne.mpr c7;obtain rfl:=Option.some.inj H;have p493:0≤(Zl:Int):=od;have q493:Zl<(l0.length:Int):=od;obtain⟨ad493,e493,hx493_0⟩:=Kd.at_int HR0.out Zl p493 q493;cases e493;replace p493:=eq_true p493;replace q493:=eq_true q493;have p494:0≤(Zl:Int):=od;have q494:Zl<(l1.length:Int):=od;obtain⟨ad494,e494,hx494_0⟩:=Kd.at_int HR1.out Zl p494 q494;cases e494;replace p494:=eq_true p494;replace q494:=eq_true q494;go_wp2;repeat(go_quiet (fail);try go_wp2)
    go_ret;exact⟨by first|rfl|(simp;done)|(simp[*];done),by repeat(first|exact Drawn0.refl _|apply Drawn0.step)⟩
   rw[Yx c7] at H;have c7b0:((rd l0 Zl) == (rd l1 Zl))=true:=beq_iff_eq.mpr c7;have c7b1:((rd l0 Zl) != (rd l1 Zl))=false:=bne_eq_false_iff_eq.mpr c7;clear c7;have H':=Ya H;clear H;have p493:0≤(Zl:Int):=od;have q493:Zl<(l0.length:Int):=od;obtain⟨ad493,e493,hx493_0⟩:=Kd.at_int HR0.out Zl p493 q493;cases e493;replace p493:=eq_true p493;replace q493:=eq_true q493;have p494:0≤(Zl:Int):=od;have q494:Zl<(l1.length:Int):=od;obtain⟨ad494,e494,hx494_0⟩:=Kd.at_int HR1.out Zl p494 q494;cases e494;replace p494:=eq_true p494;replace q494:=eq_true q494;go_wp2;repeat(go_quiet (fail);try go_wp2)
   go_roundg k1
   case measure=>have:=HK1.out;omega
   case rel=>exact⟨(wrap64 (Zl+1)),(by first|rfl|(simp;done)|(simp[*];done)),H',⟨by have:=HK1.out;omega⟩,by repeat(first|exact Drawn0.refl _|apply Drawn0.step)⟩
end P
namespace Q
open P
def flowB:List S50→List Int→Bool
 |[],[]=>true
 |a::l,x::f=>if x<0 then false else if x>a.f2 then false else flowB l f
 |_,_=>false
def askErr (n:Int) (l:List S50) (f:List Int):Int:=if netErr n l=0 then(if flowB l f=true then 0 else 71) else netErr n l
structure FlowOk (l:List S50) (f:List Int):Prop where
 len:f.length=l.length
 at_: ∀ i:Nat,i<f.length→0≤rd f i∧rd f i≤(rd_T50 l i).f2
theorem rdArc_nat (l:List S50) (i:Nat):rd_T50 l (i:Int)=l.getD i z50:=by unfold rd_T50;rw[Int.toNat_natCast]
theorem flowB_len: ∀ {l:List S50} {f:List Int},flowB l f=true→f.length=l.length
 |[],[],_=>rfl
 |[],_::_,h=>by simp[flowB] at h
 |_::_,[],h=>by simp[flowB] at h
 |a::l,x::f,h=>by
  unfold flowB at h;split at h
  ·cases h
  ·split at h
   ·cases h
   ·simp[flowB_len h]
theorem flowB_ok: ∀ {l:List S50} {f:List Int},flowB l f=true→ ∀ i:Nat,i<f.length→0≤f.getD i 0∧f.getD i 0≤(l.getD i z50).f2
 |[],[],_,i,hi=>by simp at hi
 |[],_::_,h,_,_=>by simp[flowB] at h
 |_::_,[],h,_,_=>by simp[flowB] at h
 |a::l,x::f,h,i,hi=>by
  unfold flowB at h;split at h
  ·cases h
  ·split at h
   ·cases h
   ·cases i with
    |zero=>simp;omega
    |succ i=>simpa using flowB_ok h i (by simpa using hi)
theorem flow_ok {l:List S50} {f:List Int} (h:flowB l f=true):FlowOk l f:=
 ⟨flowB_len h,fun i hi=>by rw[rd_nat,rdArc_nat];exact flowB_ok h i hi⟩
theorem flow_mk: ∀ {l:List S50} {f:List Int},f.length=l.length→(∀ i:Nat,i<f.length→0≤f.getD i 0∧f.getD i 0≤(l.getD i z50).f2)→flowB l f=true
 |[],[],_,_=>rfl
 |[],_::_,h,_=>by simp at h
 |_::_,[],h,_=>by simp at h
 |a::l,x::f,h,hf=>by
  have h0:=hf 0 (by simp);simp at h0;unfold flowB;rw[Yy (by omega),Yy (by omega)];exact flow_mk (by simpa using h) (fun i hi=>by simpa using hf (i+1) (by simpa using hi))
theorem FlowOk.b {l:List S50} {f:List Int} (h:FlowOk l f):flowB l f=true:=
 flow_mk h.len fun i hi=>by have:=h.at_ i hi;rwa [rd_nat,rdArc_nat] at this
theorem FlowOk.int {l:List S50} {f:List Int} (h:FlowOk l f) {i:Int} (h0:0≤i) (h1:i<f.length):0≤rd f i∧rd f i≤(rd_T50 l i).f2:=by
 obtain⟨j,rfl⟩:=Int.eq_ofNat_of_zero_le h0;exact h.at_ j (by omega)
theorem FlowOk.small {n:Int} {l:List S50} {f:List Int} (h:FlowOk l f) (hn:NetOk n l) {i:Int} (h0:0≤i) (h1:i<f.length):0≤rd f i∧rd f i≤1048576:=by
 have h2:=h.int h0 h1;have h3:=(hn.at_ h0 (by rw[← h.len];exact h1)).h2;omega
theorem askErr_ok {n:Int} {l:List S50} {f:List Int} (h:askErr n l f=0):NetOk n l∧FlowOk l f:=by
 unfold askErr at h;split at h
 ·split at h
  ·exact⟨netErr_ok (by assumption),flow_ok (by assumption)⟩
  ·omega
 ·exact absurd h (by assumption)
theorem ask_of {n:Int} {l:List S50} {f:List Int} (h:NetOk n l) (hf:FlowOk l f):askErr n l f=0:=by
 unfold askErr;rw[Yx (netOk_err h),Yx hf.b]
theorem asked_l0 (l:List S50) (f:List Int) (n:Int) (b:Bool) (hl:l.length≤200) (hf:f.length=l.length) (d:Nat): ∀ i:Nat,i+d=l.length→
  Ev (fun k=>static_Asked.l0 k f (f.length:Int) (i:Int) n b l) (if flowB (l.drop i) (f.drop i)=true then 0 else 71):=by
 induction d with
 |zero=>
  intro i hi;refine Ev.succ ?_;simp only[static_Asked.l0];repeat(first|exact Ev.now _|with_reducible refine Ev.pos (by first|assumption|omega) ?_|with_reducible refine Ev.neg (by first|assumption|omega) ?_|with_reducible refine Ev.let_ ?_)
  rw[List.drop_of_length_le (by omega),List.drop_of_length_le (by omega)];exact Ev.now _
 |succ d ih=>
  intro i hi;refine Ev.succ ?_;simp only[static_Asked.l0];repeat(first|exact Ev.now _|with_reducible refine Ev.pos (by first|assumption|omega) ?_|with_reducible refine Ev.neg (by first|assumption|omega) ?_|with_reducible refine Ev.let_ ?_)
  rw[drop_getD l i z50 (by omega),drop_getD f i 0 (by omega),rdArc_nat,rd_nat];unfold flowB;refine Ev.ite (fun h=> ?_) (fun h=> ?_)
  ·rw[Yx h]
   exact Ev.now _
  ·rw[Yy h]
   repeat(first|exact Ev.now _|with_reducible refine Ev.pos (by first|assumption|omega) ?_|with_reducible refine Ev.neg (by first|assumption|omega) ?_|with_reducible refine Ev.let_ ?_)
   refine Ev.ite (fun g=> ?_) (fun g=> ?_)
   ·rw[Yx g]
    exact Ev.now _
   ·rw[Yy g,wrap_succ (n:=l.length) (by omega) (by omega)]
    exact ih (i+1) (by omega)
theorem flowB_ne {l:List S50} {f:List Int} (h: ¬ ((f.length:Int)=(l.length:Int))): ¬ flowB l f=true:=fun g=>h (by rw[flowB_len g])
theorem asked_ev (n:Int) (b:Bool) (l:List S50) (f:List Int):Ev (fun k=>static_Asked.f k n b l f) (askErr n l f):=by
 unfold static_Asked.f askErr;refine Ev.bind (check_ev n b l) ?_;refine Ev.ite (fun h=> ?_) (fun h=> ?_)
 ·rw[Yx h]
  have hn:=netErr_ok h;refine Ev.ite (fun g=> ?_) (fun g=> ?_)
  ·exact asked_l0 l f n b hn.len (by omega) l.length 0 (by omega)
  ·rw[Yy (flowB_ne g)]
   exact Ev.now _
 ·rw[Yy h]
  exact Ev.now _
theorem within_l0 (l:List S50) (f:List Int) (n:Int) (b:Bool) (hl:l.length≤200) (hf:f.length=l.length) (d:Nat): ∀ i:Nat,i+d=l.length→
  Ev (fun k=>ebbtideref07_Within.l0 k f (i:Int) n b l) (flowB (l.drop i) (f.drop i)):=by
 induction d with
 |zero=>
  intro i hi;refine Ev.succ ?_;simp only[ebbtideref07_Within.l0];repeat(first|exact Ev.now _|with_reducible refine Ev.pos (by first|assumption|omega) ?_|with_reducible refine Ev.neg (by first|assumption|omega) ?_|with_reducible refine Ev.let_ ?_)
  rw[List.drop_of_length_le (by omega),List.drop_of_length_le (by omega)];exact Ev.now _
 |succ d ih=>
  intro i hi;refine Ev.succ ?_;simp only[ebbtideref07_Within.l0];repeat(first|exact Ev.now _|with_reducible refine Ev.pos (by first|assumption|omega) ?_|with_reducible refine Ev.neg (by first|assumption|omega) ?_|with_reducible refine Ev.let_ ?_)
  rw[drop_getD l i z50 (by omega),drop_getD f i 0 (by omega),rdArc_nat,rd_nat];unfold flowB;refine Ev.ite (fun h=> ?_) (fun h=> ?_)
  ·rw[Yx h]
   exact Ev.now _
  ·rw[Yy h]
   repeat(first|exact Ev.now _|with_reducible refine Ev.pos (by first|assumption|omega) ?_|with_reducible refine Ev.neg (by first|assumption|omega) ?_|with_reducible refine Ev.let_ ?_)
   refine Ev.ite (fun g=> ?_) (fun g=> ?_)
   ·rw[Yx g]
    exact Ev.now _
   ·rw[Yy g,wrap_succ (n:=l.length) (by omega) (by omega)]
    exact ih (i+1) (by omega)
theorem within_ev (n:Int) (b:Bool) (l:List S50) (f:List Int) (hl:l.length≤200):Ev (fun k=>ebbtideref07_Within.f k n b l f) (flowB l f):=by
 unfold ebbtideref07_Within.f;refine Ev.ite (fun g=> ?_) (fun g=> ?_)
 ·exact within_l0 l f n b hl (by omega) l.length 0 (by omega)
 ·rw[Bool.eq_false_iff.2 (flowB_ne g)]
  exact Ev.now _
theorem node_eq (n:Int) (b:Bool) (l:List S50) (v:Int):ebbtideref06_Node.f n b l v=some (decide (0≤v∧v<n)):=by
 unfold ebbtideref06_Node.f;split
 ·rename_i h
  congr 1;by_cases g:v<n<;>simp[g]<;>omega
 ·rename_i h
  congr 1;symm;exact Yw (by omega)
end Q
namespace Q
open P
def bal:List S50→List Int→Int→Int
 |a::l,x::f,v=>(if a.f0=v then x else 0) - (if a.f1=v then x else 0)+bal l f v
 |_,_,_=>0
theorem bal_cons (a:S50) (l:List S50) (x:Int) (f:List Int) (v:Int):bal (a::l) (x::f) v=(if a.f0=v then x else 0) - (if a.f1=v then x else 0)+bal l f v:=rfl
theorem bal_nil (f:List Int) (v:Int):bal [] f v=0:=by cases f<;>rfl
def balOf (n:Int) (l:List S50) (f:List Int):List Int:=(List.range n.toNat).map fun v:Nat=>bal l f v
theorem balOf_len (n:Int) (l:List S50) (f:List Int):(balOf n l f).length=n.toNat:=by simp[balOf]
theorem rd_balOf {n:Int} {l:List S50} {f:List Int} {v:Int} (h0:0≤v) (h1:v<n):rd (balOf n l f) v=bal l f v:=by
 obtain⟨j,rfl⟩:=Int.eq_ofNat_of_zero_le h0;have hj:j<n.toNat:=by omega
 rw[rd_nat,balOf,List.getD_eq_getElem?_getD];simp[hj]
def balRes (n:Int) (l:List S50) (f:List Int):List Int × Int:=if askErr n l f=0 then(balOf n l f,0) else([],askErr n l f)
theorem leaves_l0 (n m:Int) (b:Bool) (l:List S50) (f:List Int) (hn:NetOk m l) (hf:FlowOk l f) (v:Int) (d:Nat): ∀ (i:Nat) (acc:Int),i+d=l.length→ -(i * 2097152)≤acc→acc≤i * 2097152→
  Ev (fun k=>ebbtideref07_Leaves.l0 k f v acc (i:Int) n b l) (acc+bal (l.drop i) (f.drop i) v):=by
 have hlen:=hf.len;have hl:=hn.len
 induction d with
 |zero=>
  intro i acc hi h0 h1;refine Ev.succ ?_;simp only[ebbtideref07_Leaves.l0];repeat(first|exact Ev.now _|with_reducible refine Ev.pos (by first|assumption|omega) ?_|with_reducible refine Ev.neg (by first|assumption|omega) ?_|with_reducible refine Ev.let_ ?_)
  rw[List.drop_of_length_le (by omega)];exact Ev.done (by simp[bal])
 |succ d ih=>
  intro i acc hi h0 h1;have hs:=hf.small hn (i:=(i:Int)) (by omega) (by omega);refine Ev.succ ?_;simp only[ebbtideref07_Leaves.l0];repeat(first|exact Ev.now _|with_reducible refine Ev.pos (by first|assumption|omega) ?_|with_reducible refine Ev.neg (by first|assumption|omega) ?_|with_reducible refine Ev.let_ ?_)
  rw[wrap_succ (n:=l.length) (by omega) (by omega),drop_getD l i z50 (by omega),drop_getD f i 0 (by omega), ← rdArc_nat, ← rd_nat,bal_cons];refine Ev.ite (fun g=> ?_) (fun g=> ?_)
  ·rw[Yx g]
   refine Ev.ite (fun g2=> ?_) (fun g2=> ?_)
   ·rw[Yx g2,wrap_id (x:=acc+rd f (i:Int)) (by omega) (by omega),wrap_id (by omega) (by omega)]
    exact Ev.eq (ih (i+1) _ (by omega) (by omega) (by omega)) (by omega)
   ·rw[Yy g2,wrap_id (x:=acc+rd f (i:Int)) (by omega) (by omega)]
    exact Ev.eq (ih (i+1) _ (by omega) (by omega) (by omega)) (by omega)
  ·rw[Yy g]
   refine Ev.ite (fun g2=> ?_) (fun g2=> ?_)
   ·rw[Yx g2,wrap_id (x:=acc - rd f (i:Int)) (by omega) (by omega)]
    exact Ev.eq (ih (i+1) _ (by omega) (by omega) (by omega)) (by omega)
   ·rw[Yy g2]
    exact Ev.eq (ih (i+1) _ (by omega) (by omega) (by omega)) (by omega)
theorem leaves_ev (n m:Int) (b:Bool) (l:List S50) (f:List Int) (hn:NetOk m l) (hf:FlowOk l f) (v:Int):Ev (fun k=>ebbtideref07_Leaves.f k n b l f v) (bal l f v):=by
 unfold ebbtideref07_Leaves.f;exact Ev.eq (leaves_l0 n m b l f hn hf v l.length 0 0 (by omega) (by omega) (by omega)) (by rw[List.drop_zero,List.drop_zero];omega)
theorem ref_balance_l0 (n:Int) (b:Bool) (l:List S50) (f:List Int) (hn:NetOk n l) (hf:FlowOk l f) (d:Nat): ∀ (i:Nat),i+d=n.toNat→
  Ev (fun k=>ebbtideref07_Balance.l0 k f ((List.range i).map fun v:Nat=>bal l f v) (i:Int) n b l) (balOf n l f,0):=by
 have:=hn.lo;have:=hn.hi
 induction d with
 |zero=>
  intro i hi;refine Ev.succ ?_;simp only[ebbtideref07_Balance.l0];repeat(first|exact Ev.now _|with_reducible refine Ev.pos (by first|assumption|omega) ?_|with_reducible refine Ev.neg (by first|assumption|omega) ?_|with_reducible refine Ev.let_ ?_)
  exact Ev.done (by unfold balOf;rw[show i=n.toNat by omega])
 |succ d ih=>
  intro i hi;refine Ev.succ ?_;simp only[ebbtideref07_Balance.l0];repeat(first|exact Ev.now _|with_reducible refine Ev.pos (by first|assumption|omega) ?_|with_reducible refine Ev.neg (by first|assumption|omega) ?_|with_reducible refine Ev.let_ ?_)
  refine Ev.bind (leaves_ev n n b l f hn hf i) ?_;refine Ev.pos (by simp;omega) ?_;rw[wrap_succ (n:=n.toNat) (by omega) (by omega)];have e:((List.range i).map fun v:Nat=>bal l f v) ++ [bal l f (i:Int)]=(List.range (i+1)).map fun v:Nat=>bal l f v:=by simp[List.range_succ]
  rw[e];exact ih (i+1) (by omega)
theorem ref_balance_ev (n:Int) (b:Bool) (l:List S50) (f:List Int):Ev (fun k=>ebbtideref07_Balance.f k n b l f) (balRes n l f):=by
 unfold ebbtideref07_Balance.f balRes askErr;refine Ev.bind (ref_check_ev n b l) ?_;refine Ev.ite (fun h=> ?_) (fun h=> ?_)
 ·rw[Yx h]
  have hn:=netErr_ok h;refine Ev.bind (within_ev n b l f hn.len) ?_;refine Ev.ite (fun g=> ?_) (fun g=> ?_)
  ·rw[Yx g,Yx rfl]
   exact ref_balance_l0 n b l f hn (flow_ok g) n.toNat 0 (by omega)
  ·rw[Yy g,Yy (by decide)]
   exact Ev.now _
 ·rw[Yy h,Yy h]
  exact Ev.now _
theorem balRes_ok {n:Int} {l:List S50} {f:List Int} (h:askErr n l f=0):balRes n l f=(balOf n l f,0):=by unfold balRes;rw[Yx h]
theorem balRes_no {n:Int} {l:List S50} {f:List Int} (h: ¬ askErr n l f=0):balRes n l f=([],askErr n l f):=by unfold balRes;rw[Yy h]
end Q
end Go.Proofs.Ytoedkglggapggaa
