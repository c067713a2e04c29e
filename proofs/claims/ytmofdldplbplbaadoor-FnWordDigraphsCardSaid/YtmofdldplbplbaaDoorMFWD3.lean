-- Printed by a program of this workplace (wip/xp/xp.py), joined by wip/bin/mergeP.
import Derived.Test.YtmofdldplbplbaaDoorMFWD0
import Derived.Test.YtmofdldplbplbaaDoorMFWD1
namespace Go.Proofs.YtmofdldplbplbaaDoor.P
open Go.RowKit Go.Proofs.YtmofdldplbplbaaDoorW.PrintWords Go.Proofs.YtmofdldplbplbaaDoorW.PrintLast Go.Proofs.YtmofdldplbplbaaDoorW.PrintMore
attribute [local go_sem] max2_int min2_int max_two min_two max_three min_three max_four min_four
set_option linter.unusedVariables false
set_option linter.unusedSimpArgs false
mutual
def impl_directed.l0 (is_:Int→Int→Option Bool):Nat→Int→Int→Int→Int→List Int→Option (Int × List Int)
  |0,_,_,_,_,_=>none
  |k+1,x0,x12,x13,x171000,x171001=>if x13<x12 then(impl_directed.l1 is_ k x0 x13 x12 x13 x0 0 x171000 x171001)else(some (x171000,x171001))
def impl_directed.l1 (is_:Int→Int→Option Bool):Nat→Int→Int→Int→Int→Int→Int→Int→List Int→Option (Int × List Int)
  |0,_,_,_,_,_,_,_,_=>none
  |k+1,x0,x6,x12,x13,x16,x17,x171000,x171001=>if x17<x16 then((is_ x6 x17).bind fun t171=>(if t171=true then(if 0≤x6 then(if x6<(x171001.length:Int)then(if 0≤x17 then(impl_directed.l1 is_ k x0 x6 x12 x13 x16 (wrap64 (x17+1)) x171000 (x171001.set (x6:Int).toNat (Go.bits .or .i64 (rd x171001 x6) (shl .i64 1 x17))))else(none))else(none))else(none))else(impl_directed.l1 is_ k x0 x6 x12 x13 x16 (wrap64 (x17+1)) x171000 x171001)))else(impl_directed.l0 is_ k x0 x12 (wrap64 (x13+1)) x171000 x171001)
end
def impl_directed.f (is_:Int→Int→Option Bool) (k:Nat) (a0:Int):Option (Int × List Int):=if 0≤a0 then(if(a0:Int).toNat≤35184372088832 then(impl_directed.l0 is_ k a0 a0 0 a0 (List.replicate (a0:Int).toNat 0))else(none))else(none)
def impl_directed.T9:Bool × List (List Nat × List Nat):=(true,[([],[]),([0],[0]),([],[]),([1,2],[1,2]),([3],[3]),([],[]),([5],[5]),([4,6],[4,6]),([1,2,0,1,2,3,4,5,6,7],[1,2]),([8,7,0,1,2,3,4,5,6,7],[7,8])])
def impl_directed.B9:List Nat:=[0,1,0,7,15,0,32,127,255,511]
theorem impl_directed.tab9:rtab .any (opsOf Tryd.f152 9)=impl_directed.T9:=by kernel_rfl
theorem impl_directed.bits9:waitsOk impl_directed.T9.2 impl_directed.B9=true:=by kernel_rfl
set_option maxHeartbeats 8000000 in
set_option maxRecDepth 100000 in
theorem impl_directed.calls (is_:Int→Int→Option Bool) (g_:Nat) (lb_:Array Value) (eg_:∀args w,(callFunc g_ args).run Tryd.prog w=.ok (.enter g_ args) w) (k:Nat) (a0:Int) (r1:Int) (r2:List Int) (w:World) (hq_:∀(x y:Int) (b:Bool) (W:World),Below w.heap.size w W→is_ x y=some b→Calls Tryd.prog g_ (#[.int .i64 x,.int .i64 y]++lb_) W fun e w'=>e=.returned (.bool b)∧Below W.heap.size W w') (h:impl_directed.f is_ k a0=some (r1,r2)) :
    Calls Tryd.prog 152 #[.int .i64 a0,.func (.func g_) #[] lb_] w fun e w'=>∃v1_:Value,e=.returned (.agg #[.int .i64 r1,v1_])∧Kd.R (Kd.int .i64) 2 w' w.heap.size (fun _=>True) v1_ r2∧Below w.heap.size w w':=by
  (have hu43:=Tryd.underlying43);(have HB:=Aside0.mk (Below.refl w.heap.size w));(have H:(if 0≤a0 then(if(a0:Int).toNat≤35184372088832 then(impl_directed.l0 is_ k a0 a0 0 a0 (List.replicate (a0:Int).toNat 0))else(none))else(none))=some (r1,r2):=h);clear h;(replace H:=En H);(obtain⟨c2b0,c2b1,H⟩:=H);(replace H:=En H);(obtain⟨c3b0,c3b1,H⟩:=H);(obtain⟨y167,Ny167⟩:=Ys (List.replicate (a0:Int).toNat 0:List Int));(rw[← Ny167.out]at H);(have H':=Aside0.mk H);clear H;(go_enter Tryd.func152,Tryd.ntmps152);(go_wp2_with(first|(refine Y4 4 #[.int .i64 0,.slice none 0 0] 43 ?_;intro gb166 hg w4 hbox hb;have BK166:=Aside0.mk (hbox);have GW166:=Yge HB hg;have GE166:=Yge HB hg;replace HB:=Aside0.mk (below_step (Ya) hb);clear hb hbox hg)|((with_reducible refine gate_dst (N:=10) rfl ?_);refine Kd.R_make (Kd.int .i64) _ 2 rfl (N:=10) rfl 24 _ _ rfl a0 rfl rfl Tryd.underlying24 (.int .i64 0) 8 info2 rfl (by decide) (by omega) 0 (ok:=fun _=>True) (okp:=fun _=>True) rfl (fun _ hk=>hk) trivial (Ym) (Nat.le_trans (Nat.mul_le_mul_right _ (Ym:a0.toNat≤35184372088832)) (by omega)) (Below.refl _ _) (Nat.le_refl _) ?_;intro v168 w5 ho6 hb hg_ hnew_;clear hg_ hnew_;(first|rw[← Ny167.out]at ho6|(simp only[Int.reduceToNat]at ho6;rw[← Ny167.out]at ho6));have HO169:=Aside0.mk (Kd.R_lower ho6 (below_size (Ya)));replace BK166:=Aside0.mk (blk_below (Ye BK166) hb);replace HB:=Aside0.mk (below_step (Ya) hb);clear hb ho6;obtain⟨Ao7,co7,eo7⟩:=Kd.R_slice HO169.out;subst eo7)|(refine Y4 5 #[.int .i64 0,.slice none 0 0] 43 ?_;intro gb170 hg w8 hbox hb;replace HO169:=Aside0.mk (Kd.R_below (YcR HO169) hb);have BK170:=Aside0.mk (hbox);have GW170:=Yge HB hg;have GE170:=Yge HB hg;replace HB:=Aside0.mk (below_step (Ya) hb);have NB166_170:=Aside0.mk ((by rw[hg];exact Nat.ne_of_lt (blk_lt (Ye BK166)):gb166≠gb170));have NB170_166:=Aside0.mk ((by rw[hg];exact Nat.ne_of_gt (blk_lt (Ye BK166)):gb170≠gb166));replace BK166:=Aside0.mk (blk_below (Ye BK166) hb);clear hb hbox hg;have hnb9:=NB170_166.out;have hnc9:=NB166_170.out;obtain⟨hcz10_0,hcz10_1,hfz10_0,hfz10_1⟩:=Y2 BK170)));(go_loopg[13] k (fun kq v13 w'=>∃(x13_1:Int) (x171001_1:List Int) (u171001:Value),v13=.int .i64 x13_1∧Aside0 (impl_directed.l0 is_ kq a0 a0 x13_1 a0 x171001_1=some (r1,r2))∧Aside0 (kq≤k)∧Aside0 (Kd.R (Kd.int .i64) 2 w' w.heap.size (fun _=>True) u171001 x171001_1)∧Aside0 (w'.heap[gb166]? =some (.cells #[.int .i64 0,(.slice none 0 0)] 43 (0,0)))∧Aside0 (w'.heap[gb170]? =some (.cells #[.int .i64 a0,u171001] 43 (0,0)))∧Aside0 (Below w.heap.size w w')));(case atStart=>exact⟨(0),(y167),(.slice Ao7 y167.length co7),Yk,H',⟨Nat.le_refl _⟩,⟨YbR (Kd.R_mono (Kd.R_far (p:=⟨gb170,1,none⟩) (Kd.R_far (p:=⟨gb170,0,none⟩) (Kd.R_types HO169.out BK170.out (by decide)) (fun _ hk=>hk.2) (.int .i64 a0)) (fun _ hk=>hk.2) (.slice Ao7 y167.length co7)) (fun _ hk=>trivial))⟩,⟨Yf BK166⟩,⟨by refine Yput #[.int .i64 a0,.slice none 0 0] 1 ?_;refine Yput #[.int .i64 0,.slice none 0 0] 0 ?_;exact Ye BK170⟩,⟨Ya⟩⟩)
  case round=>
    (clear H');(try clear c2b0);(try clear c2b1);(try clear c3b0);(try clear c3b1);(try clear hcz10_0);(try clear hcz10_1);(try clear hfz10_0);(try clear hfz10_1);(obtain⟨x13_1,x171001_1,u171001,rfl,HA,HK1,HO_171001,BK166,BK170,HB⟩:=hrel)
    cases gk with
    |zero=>exact absurd HA.out (by simp[impl_directed.l0])
    |succ k1=>
      (have H:=HA.out);clear HA;(simp only[impl_directed.l0]at H);(replace H:=Yp H);(obtain⟨c11,H⟩|⟨c11,H⟩:=H)
      · have c11b0:=decide_eq_true c11
        clear c11;(have H':=Aside0.mk H);clear H;go_wp2;(go_loopg[17] k1 (fun kq v17 w'=>∃(x17_2:Int) (x171001_2:List Int) (u171001:Value),v17=.int .i64 x17_2∧Aside0 (impl_directed.l1 is_ kq a0 x13_1 a0 x13_1 a0 x17_2 a0 x171001_2=some (r1,r2))∧Aside0 (kq≤k1)∧Aside0 (Kd.R (Kd.int .i64) 2 w' w.heap.size (fun _=>True) u171001 x171001_2)∧Aside0 (w'.heap[gb166]? =some (.cells #[.int .i64 0,(.slice none 0 0)] 43 (0,0)))∧Aside0 (w'.heap[gb170]? =some (.cells #[.int .i64 a0,u171001] 43 (0,0)))∧Aside0 (Below w.heap.size w w')));(case atStart=>exact⟨(0),(x171001_1),(u171001),Yk,H',⟨Nat.le_refl _⟩,⟨YcR HO_171001⟩,⟨Ye BK166⟩,⟨Ye BK170⟩,⟨Ya⟩⟩)
        case round=>
          (clear H');(try clear c2b0);(try clear c2b1);(try clear c3b0);(try clear c3b1);(try clear c11b0);(try clear hcz10_0);(try clear hcz10_1);(try clear hfz10_0);(try clear hfz10_1);(obtain⟨x17_2,x171001_2,u171001,rfl,HA,HK2,HO_171001,BK166,BK170,HB⟩:=hrel)
          cases gk with
          |zero=>exact absurd HA.out (by simp[impl_directed.l1])
          |succ k2=>
            (have H:=HA.out);clear HA;(simp only[impl_directed.l1]at H);(replace H:=Yp H);(obtain⟨c12,H⟩|⟨c12,H⟩:=H);(· (have c12b0:=decide_eq_true c12);clear c12;(replace H:=Yq H);(obtain⟨t171,A13,H⟩:=H);(by_cases c14:t171=true);(· subst c14;(replace H:=Ybt H);(replace H:=Dn2 H);(obtain⟨c15b0,c16b0,H⟩:=H);(replace H:=En H);(obtain⟨c17b0,c17b1,H⟩:=H);(obtain⟨ji18,hji18⟩:=Yt (shl .i64 1 x17_2));(try simp only[hji18]at H A13);(obtain⟨hji18_,hji18z,hji18u,hji18v,hji18y,hji18x⟩:=Yu hji18);(obtain⟨y173,Ny173⟩:=Ys (x171001_2.set (x13_1:Int).toNat (Go.bits .or .i64 (rd x171001_2 x13_1) (ji18)):List Int));(rw[← Ny173.out]at H);(have H':=Aside0.mk H);clear H;(try go_wp2_with(first|(go_at_fn g_;(with_reducible refine(hq_ x13_1 x17_2 true _ ?side1 A13.out).mono ?_);(case side1=>exact(Ya));rintro e w20 ⟨rfl,hb⟩;replace HO_171001:=Aside0.mk (Kd.R_below (YcR HO_171001) hb);replace BK166:=Aside0.mk (blk_below (Ye BK166) hb);replace BK170:=Aside0.mk (blk_below (Ye BK170) hb);replace HB:=Aside0.mk (below_step (Ya) hb);clear hb)));(replace HO_171001:=Aside0.mk (Kd.R_drew HO_171001.out));(replace BK166:=Aside0.mk (blk_drew BK166.out));(replace BK170:=Aside0.mk (blk_drew BK170.out));(replace HB:=Aside0.mk (below_drew1 HB.out));(obtain⟨Ao22,co22,eo22⟩:=Kd.R_slice HO_171001.out);(first|subst eo22|(injection eo22 with f1_ f2_ f3_;have f4_:=f1_.symm;have f5_:=f3_.symm;clear f1_ f2_ f3_;subst f4_;subst f5_));(have p172:0≤(x13_1:Int):=Ym);(have q172:x13_1<(x171001_2.length:Int):=Ym);(obtain⟨ad172,e172,hx172_0⟩:=Kd.at_int (Kd.R_reads' HO_171001.out).2.2 x13_1 p172 q172);(cases e172);(replace p172:=eq_true p172);(replace q172:=eq_true q172);(have p19:0≤(x13_1:Int):=Ym);(have q19:(x13_1:Int)<((x171001_2.length:Int):Int):=Ym);(obtain⟨go19,co19,eo19,gb19,gl19,cl19,HG19⟩:=Kd.R_form HO_171001.out (by omega));(first|cases eo19|(injection eo19 with ea_ en_ ec_;(first|subst ea_|(injection ea_ with ea_;subst ea_));subst ec_;clear en_));(have GB19:=Aside0.mk gb19);(have GG19:=Aside0.mk HG19);clear gb19 gl19 HG19;(first|simp only[add_plain]at hx172_0|skip);(obtain⟨hx19_0,hf19_0⟩:=Kd.R_celln 0 HO_171001.out (x13_1:Int) p19 q19);(replace p19:=eq_true p19);(replace q19:=eq_true q19);(have HP23:=Kd.R_putn HO_171001.out (x13_1:Int) (Go.bits .or .i64 (rd x171001_2 x13_1) (ji18)));(rw[← Ny173.out]at HP23);(have HQ23:=Aside0.mk HP23);clear HP23;(refine start_ (n:=10) (S:=fun w'=>w'.cell? ⟨gb170,0,none⟩=some (.int .i64 a0)∧w'.cell? ⟨gb170,1,none⟩=some (.slice (some ⟨go19,0,none⟩) x171001_2.length co22)∧w'.cell? ⟨go19,(x13_1).toNat,none⟩=some (.int .i64 (rd x171001_2 x13_1))) (ds:=[9]) #[false,false,false,false,false,false,false,false,false,false] (by kernel_rfl) rfl rfl ⟨(blk_cell BK170.out 0).trans rfl,(blk_cell BK170.out 1).trans rfl,hx172_0⟩ (fun hHeld=>?_);refine with_tabW impl_directed.tab9 impl_directed.bits9 (fun HT_ HW_=>?_));(generalize w20.drew=w21 at HO_171001 BK166 BK170 HB GG19 HQ23 hf19_0 hx172_0 hx19_0 hHeld ⊢);(refine Y6 0 (some 24) HT_ ?_);(refine Y6 2 (some 26) HT_ ?_);(refine Y6 5 (some 29) HT_ ?_);(refine Y6 6 (some 30) HT_ ?_);(refine Y7 1 (some 25) HT_ HW_ hHeld ?_);(refine Y6 3 (some 27) HT_ ?_);(refine Y7 4 (some 28) HT_ HW_ hHeld ?_);(refine Y6 7 (some 31) HT_ ?_);(refine Y6 8 (some 32) HT_ ?_);(refine Y9 9 none HT_ (fun K hK=>?_));(refine skip_ (w1:=?_) (by rfl) rfl ?_ ?_);rotate_left;(· go_simp;rfl);(refine hK.out _ _ ?_);clear hK K;(refine done_ (done_of HT_.out (by kernel_rfl)) ?_);(try go_wp2);(go_roundg k2);(case measure=>have:=HK1.out;have:=HK2.out;omega);(case rel=>exact⟨(wrap64 (x17_2+1)),(y173),(.slice (some ⟨go19,0,none⟩) x171001_2.length co22),Yk,H',⟨by have:=HK1.out;have:=HK2.out;omega⟩,⟨YcR HQ23⟩,⟨by(with_reducible repeat(first|refine blk_drewN ?_ _|refine blk_drew ?_|refine blk_alloc ?_ _));refine blk_far ?_ (by have h_:=Kd.R_ne HO_171001.out BK166.out (by decide);intro e_;exact h_ (by rw[e_];rfl)) _;(with_reducible repeat(first|refine blk_drewN ?_ _|refine blk_drew ?_|refine blk_alloc ?_ _));exact BK166.out⟩,⟨by(with_reducible repeat(first|refine blk_drewN ?_ _|refine blk_drew ?_|refine blk_alloc ?_ _));refine blk_far ?_ (by have h_:=Kd.R_ne HO_171001.out BK170.out (by decide);intro e_;exact h_ (by rw[e_];rfl)) _;(with_reducible repeat(first|refine blk_drewN ?_ _|refine blk_drew ?_|refine blk_alloc ?_ _));exact BK170.out⟩,⟨Ya⟩⟩));(· (replace c14:=Bool.eq_false_iff.mpr c14);subst c14;(replace H:=Ybf H);(have H':=Aside0.mk H);clear H;(go_wp2_with(first|(go_at_fn g_;(with_reducible refine(hq_ x13_1 x17_2 false _ ?side1 A13.out).mono ?_);(case side1=>exact(Ya));rintro e w24 ⟨rfl,hb⟩;replace HO_171001:=Aside0.mk (Kd.R_below (YcR HO_171001) hb);replace BK166:=Aside0.mk (blk_below (Ye BK166) hb);replace BK170:=Aside0.mk (blk_below (Ye BK170) hb);replace HB:=Aside0.mk (below_step (Ya) hb);clear hb)));(go_roundg k2);(case measure=>have:=HK1.out;have:=HK2.out;omega);(case rel=>exact⟨(wrap64 (x17_2+1)),(x171001_2),(u171001),Yk,H',⟨by have:=HK1.out;have:=HK2.out;omega⟩,⟨YcR HO_171001⟩,⟨Ye BK166⟩,⟨Ye BK170⟩,⟨Ya⟩⟩)));(· (have c12b0:=decide_eq_false c12);clear c12;(have H':=Aside0.mk H);clear H;go_wp2;(go_roundg k2);(case measure=>have:=HK1.out;have:=HK2.out;omega);(case rel=>exact⟨(wrap64 (x13_1+1)),(x171001_2),(u171001),Yk,H',⟨by have:=HK1.out;have:=HK2.out;omega⟩,⟨YcR HO_171001⟩,⟨Ye BK166⟩,⟨Ye BK170⟩,⟨Ya⟩⟩))
      · have c11b0:=decide_eq_false c11
        clear c11;(simp only[Option.some.injEq,Prod.mk.injEq]at H);(obtain⟨rfl,rfl⟩:=H);(have hnb25:=NB170_166.out);(have hnc25:=NB166_170.out);(obtain⟨hcz26_0,hcz26_1,hfz26_0,hfz26_1⟩:=Y2 BK170);(obtain⟨hcz27_0,hcz27_1,hfz27_0,hfz27_1⟩:=Y2 BK166);(obtain⟨Ao28,co28,eo28⟩:=Kd.R_slice HO_171001.out);subst eo28;go_wp2;(refine bodyPost_ret (results_cell_row rfl _ _ gb166 43 #[.int .i64 a0,.slice Ao28 x171001_1.length co28] (0,0) _ rfl (by refine Yput #[.int .i64 a0,.slice none 0 0] 1 ?_;refine Yput #[.int .i64 0,.slice none 0 0] 0 ?_;exact Ye BK166) Tryd.underlying43 rfl (by kernel_rfl)) rfl ?_);(exact⟨_,Yl,YbR (Kd.R_mono (Kd.R_far (p:=⟨gb166,1,none⟩) (Kd.R_far (p:=⟨gb166,0,none⟩) (Kd.R_types HO_171001.out BK166.out (by decide)) (fun _ hk=>hk.2) (.int .i64 a0)) (fun _ hk=>hk.2) (.slice Ao28 x171001_1.length co28)) (fun _ hk=>trivial)),Ya⟩)
def impl_Digraph_reversed.is (l:List Int) (v w:Int):Option Bool:=if 0≤w then(if w<(l.length:Int)then(if 0≤v then some ((Go.bits .and .i64 (shr .i64 (rd l w) v) 1)==1)else none)else none)else none
set_option maxHeartbeats 2000000 in
theorem impl_Digraph_reversed.lit (n:Int) (A:Option Addr) (c:Nat) (l:List Int) (g:Nat) (v u:Int) (b:Bool) (W:World) (hB:W.heap[g]? =some (.cells #[.int .i64 n,.slice A l.length c] 43 (0,0)))
    (hr:Kd.C (Kd.int .i64) W A l.length l) (h:impl_Digraph_reversed.is l v u=some b) :
    Calls Tryd.prog 169 #[.int .i64 v,.int .i64 u,.pointer (some ⟨g,0,none⟩)] W fun e w'=>e=.returned (.bool b)∧w'=W:=by
  have hu:=Tryd.underlying43
  have hx0:W.cell? ⟨g,0,none⟩=some (.int .i64 n):=(blk_cell hB 0).trans rfl
  have hx1:W.cell? ⟨g,1,none⟩=some (.slice A l.length c):=(blk_cell hB 1).trans rfl
  clear hB
  unfold impl_Digraph_reversed.is at h
  split at h
  case isFalse=>cases h
  case isTrue p0=>
  split at h
  case isFalse=>cases h
  case isTrue p1=>
  split at h
  case isFalse=>cases h
  case isTrue p2=>
  obtain rfl:=Option.some.inj h
  obtain⟨ad,ea,hcell⟩:=Kd.at_int hr u p0 p1
  cases ea
  clear h hr
  obtain⟨ji,hji⟩:∃j_:Int,shr .i64 (rd l u) v=j_:=⟨_,rfl⟩
  rw[hji]
  have hj_:(rd l u)/2 ^ min v.toNat 64=ji:=hji
  have hjz:v≤64→(rd l u)/2 ^ v.toNat=ji:=shr_small hji
  have HJ:=Aside0.mk hji
  clear hji
  have d0:decide (0≤v)=true:=decide_eq_true p2
  replace p0:=eq_true p0
  replace p1:=eq_true p1
  replace p2:=eq_true p2
  go_enter Tryd.func169,Tryd.ntmps169
  go_wp2
  go_ret
  exact⟨by first|rfl|(simp;done)|(simp[*];done),rfl⟩
def impl_Digraph_reversed.f (k:Nat) (a0_0:Int) (l0_1:List Int):Option (Int × List Int):=(impl_directed.f (impl_Digraph_reversed.is l0_1) k a0_0).bind fun bt=>some (bt.1,bt.2)
set_option maxHeartbeats 8000000 in
set_option maxRecDepth 100000 in
theorem impl_Digraph_reversed.calls (k:Nat) (a0_0:Int) (A0_1:Option Addr) (c0_1:Nat) (l0_1:List Int) (r1:Int) (r2:List Int) (w:World) (hr0_1:Kd.C (Kd.int .i64) w A0_1 l0_1.length l0_1) (hc0_1:l0_1.length≤c0_1) (h:impl_Digraph_reversed.f k a0_0 l0_1=some (r1,r2)) :
    Calls Tryd.prog 103 #[.agg #[.int .i64 a0_0,.slice A0_1 l0_1.length c0_1]] w fun e w'=>∃v1_:Value,e=.returned (.agg #[.int .i64 r1,v1_])∧Kd.R (Kd.int .i64) 2 w' w.heap.size (fun _=>True) v1_ r2∧Below w.heap.size w w':=by
  have hu:=Tryd.underlying43
  unfold impl_Digraph_reversed.f at h
  obtain⟨⟨t1,t2⟩,hd,h⟩:=Option.bind_eq_some_iff.mp h
  obtain⟨rfl,rfl⟩:t1=r1∧t2=r2:=by simpa using h
  clear h
  have HR:=Aside0.mk hr0_1
  have HC:=Aside0.mk hc0_1
  clear hr0_1 hc0_1
  have HB:=Aside0.mk (((Below.refl w.heap.size w).alloc (Nat.le_refl _) (.cells #[.int .i64 a0_0,.slice A0_1 l0_1.length c0_1] 43)).alloc (by simp) (.cells #[.int .i64 0,.slice none 0 0] 43))
  have HK:=fun W hq=>impl_directed.calls (impl_Digraph_reversed.is l0_1) 169 #[.pointer (some ⟨w.heap.size,0,none⟩)] (enters_of Tryd.func169 (by kernel_rfl) rfl) k a0_0 t1 t2 W hq hd
  clear hd
  go_enter Tryd.func103,Tryd.ntmps103
  go_wp2_with fail
  refine(HK _ ?hq).mono ?_
  case hq=>
    intro x y b W hb hxy
    have hB:=blk_below (blk_alloc (blk_new w (.cells #[.int .i64 a0_0,.slice A0_1 l0_1.length c0_1] 43)) (.cells #[.int .i64 0,.slice none 0 0] 43)) hb
    exact(impl_Digraph_reversed.lit a0_0 A0_1 c0_1 l0_1 w.heap.size x y b W hB (Kd.C_below (Kd.C_below HR.out HB.out) hb) hxy).mono fun e w' ⟨he,hw⟩=>⟨he,by rw[hw];exact Below.refl _ _⟩
  rintro e w2 ⟨v1,rfl,hR,hb⟩
  have hB1:=blk_below (g:=w.heap.size+1) (o:=.cells #[.int .i64 0,.slice none 0 0] 43 (0,0)) (by have:=blk_new (w.alloc (.cells #[.int .i64 a0_0,.slice A0_1 l0_1.length c0_1] 43)) (.cells #[.int .i64 0,.slice none 0 0] 43);simpa using this) hb
  have HBB:=Aside0.mk (below_then HB.out (by simp;omega) hb)
  have BK:=Aside0.mk hB1
  have HO:=Aside0.mk (Kd.R_lower (base':=w.heap.size) hR (by simp;omega))
  clear hR hb hB1 HB
  obtain⟨Ao,co,eo⟩:=Kd.R_slice HO.out
  subst eo
  have hcz0:w2.cell? ⟨w.heap.size+1,0,none⟩=some (.int .i64 0):=(blk_cell BK.out 0).trans rfl
  have hcz1:w2.cell? ⟨w.heap.size+1,1,none⟩=some (.slice none 0 0):=(blk_cell BK.out 1).trans rfl
  have hfz0:=blk_frozen BK.out 0
  have hfz1:=blk_frozen BK.out 1
  go_wp2
  refine bodyPost_ret (results_cell_row rfl _ _ (w.heap.size+1) 43 #[.int .i64 t1,.slice Ao t2.length co] (0,0) _ rfl (by refine blk_put (cs:=#[.int .i64 t1,.slice none 0 0]) ?_ 1 _ rfl;refine blk_put (cs:=#[.int .i64 0,.slice none 0 0]) ?_ 0 _ rfl;exact BK.out) Tryd.underlying43 rfl (by kernel_rfl)) rfl ?_
  exact⟨_,rfl,Kd.R_mono (Kd.R_far (p:=⟨w.heap.size+1,1,none⟩) (Kd.R_far (p:=⟨w.heap.size+1,0,none⟩) (Kd.R_types HO.out BK.out (by decide)) (fun _ hk=>hk.2) (.int .i64 t1)) (fun _ hk=>hk.2) (.slice Ao t2.length co)) (fun _ _=>trivial),below_set (below_set HBB.out (Nat.le_succ _)) (Nat.le_succ _)⟩
def bits_OnesCount64.f (a0:Int):Option (Int):=some (Go.bits .and .i64 (wrap64 (IntKind.u64.wrap ((IntKind.u64.wrap ((IntKind.u64.wrap ((Go.bits .and .u64 (IntKind.u64.wrap (((IntKind.u64.wrap ((Go.bits .and .u64 ((IntKind.u64.wrap ((Go.bits .and .u64 (a0/2) 6148914691236517205)+(Go.bits .and .u64 a0 6148914691236517205)))/4) 3689348814741910323)+(Go.bits .and .u64 (IntKind.u64.wrap ((Go.bits .and .u64 (a0/2) 6148914691236517205)+(Go.bits .and .u64 a0 6148914691236517205))) 3689348814741910323)))/16)+(IntKind.u64.wrap ((Go.bits .and .u64 ((IntKind.u64.wrap ((Go.bits .and .u64 (a0/2) 6148914691236517205)+(Go.bits .and .u64 a0 6148914691236517205)))/4) 3689348814741910323)+(Go.bits .and .u64 (IntKind.u64.wrap ((Go.bits .and .u64 (a0/2) 6148914691236517205)+(Go.bits .and .u64 a0 6148914691236517205))) 3689348814741910323))))) 1085102592571150095)+((Go.bits .and .u64 (IntKind.u64.wrap (((IntKind.u64.wrap ((Go.bits .and .u64 ((IntKind.u64.wrap ((Go.bits .and .u64 (a0/2) 6148914691236517205)+(Go.bits .and .u64 a0 6148914691236517205)))/4) 3689348814741910323)+(Go.bits .and .u64 (IntKind.u64.wrap ((Go.bits .and .u64 (a0/2) 6148914691236517205)+(Go.bits .and .u64 a0 6148914691236517205))) 3689348814741910323)))/16)+(IntKind.u64.wrap ((Go.bits .and .u64 ((IntKind.u64.wrap ((Go.bits .and .u64 (a0/2) 6148914691236517205)+(Go.bits .and .u64 a0 6148914691236517205)))/4) 3689348814741910323)+(Go.bits .and .u64 (IntKind.u64.wrap ((Go.bits .and .u64 (a0/2) 6148914691236517205)+(Go.bits .and .u64 a0 6148914691236517205))) 3689348814741910323))))) 1085102592571150095)/256)))+((IntKind.u64.wrap ((Go.bits .and .u64 (IntKind.u64.wrap (((IntKind.u64.wrap ((Go.bits .and .u64 ((IntKind.u64.wrap ((Go.bits .and .u64 (a0/2) 6148914691236517205)+(Go.bits .and .u64 a0 6148914691236517205)))/4) 3689348814741910323)+(Go.bits .and .u64 (IntKind.u64.wrap ((Go.bits .and .u64 (a0/2) 6148914691236517205)+(Go.bits .and .u64 a0 6148914691236517205))) 3689348814741910323)))/16)+(IntKind.u64.wrap ((Go.bits .and .u64 ((IntKind.u64.wrap ((Go.bits .and .u64 (a0/2) 6148914691236517205)+(Go.bits .and .u64 a0 6148914691236517205)))/4) 3689348814741910323)+(Go.bits .and .u64 (IntKind.u64.wrap ((Go.bits .and .u64 (a0/2) 6148914691236517205)+(Go.bits .and .u64 a0 6148914691236517205))) 3689348814741910323))))) 1085102592571150095)+((Go.bits .and .u64 (IntKind.u64.wrap (((IntKind.u64.wrap ((Go.bits .and .u64 ((IntKind.u64.wrap ((Go.bits .and .u64 (a0/2) 6148914691236517205)+(Go.bits .and .u64 a0 6148914691236517205)))/4) 3689348814741910323)+(Go.bits .and .u64 (IntKind.u64.wrap ((Go.bits .and .u64 (a0/2) 6148914691236517205)+(Go.bits .and .u64 a0 6148914691236517205))) 3689348814741910323)))/16)+(IntKind.u64.wrap ((Go.bits .and .u64 ((IntKind.u64.wrap ((Go.bits .and .u64 (a0/2) 6148914691236517205)+(Go.bits .and .u64 a0 6148914691236517205)))/4) 3689348814741910323)+(Go.bits .and .u64 (IntKind.u64.wrap ((Go.bits .and .u64 (a0/2) 6148914691236517205)+(Go.bits .and .u64 a0 6148914691236517205))) 3689348814741910323))))) 1085102592571150095)/256)))/65536)))+((IntKind.u64.wrap ((IntKind.u64.wrap ((Go.bits .and .u64 (IntKind.u64.wrap (((IntKind.u64.wrap ((Go.bits .and .u64 ((IntKind.u64.wrap ((Go.bits .and .u64 (a0/2) 6148914691236517205)+(Go.bits .and .u64 a0 6148914691236517205)))/4) 3689348814741910323)+(Go.bits .and .u64 (IntKind.u64.wrap ((Go.bits .and .u64 (a0/2) 6148914691236517205)+(Go.bits .and .u64 a0 6148914691236517205))) 3689348814741910323)))/16)+(IntKind.u64.wrap ((Go.bits .and .u64 ((IntKind.u64.wrap ((Go.bits .and .u64 (a0/2) 6148914691236517205)+(Go.bits .and .u64 a0 6148914691236517205)))/4) 3689348814741910323)+(Go.bits .and .u64 (IntKind.u64.wrap ((Go.bits .and .u64 (a0/2) 6148914691236517205)+(Go.bits .and .u64 a0 6148914691236517205))) 3689348814741910323))))) 1085102592571150095)+((Go.bits .and .u64 (IntKind.u64.wrap (((IntKind.u64.wrap ((Go.bits .and .u64 ((IntKind.u64.wrap ((Go.bits .and .u64 (a0/2) 6148914691236517205)+(Go.bits .and .u64 a0 6148914691236517205)))/4) 3689348814741910323)+(Go.bits .and .u64 (IntKind.u64.wrap ((Go.bits .and .u64 (a0/2) 6148914691236517205)+(Go.bits .and .u64 a0 6148914691236517205))) 3689348814741910323)))/16)+(IntKind.u64.wrap ((Go.bits .and .u64 ((IntKind.u64.wrap ((Go.bits .and .u64 (a0/2) 6148914691236517205)+(Go.bits .and .u64 a0 6148914691236517205)))/4) 3689348814741910323)+(Go.bits .and .u64 (IntKind.u64.wrap ((Go.bits .and .u64 (a0/2) 6148914691236517205)+(Go.bits .and .u64 a0 6148914691236517205))) 3689348814741910323))))) 1085102592571150095)/256)))+((IntKind.u64.wrap ((Go.bits .and .u64 (IntKind.u64.wrap (((IntKind.u64.wrap ((Go.bits .and .u64 ((IntKind.u64.wrap ((Go.bits .and .u64 (a0/2) 6148914691236517205)+(Go.bits .and .u64 a0 6148914691236517205)))/4) 3689348814741910323)+(Go.bits .and .u64 (IntKind.u64.wrap ((Go.bits .and .u64 (a0/2) 6148914691236517205)+(Go.bits .and .u64 a0 6148914691236517205))) 3689348814741910323)))/16)+(IntKind.u64.wrap ((Go.bits .and .u64 ((IntKind.u64.wrap ((Go.bits .and .u64 (a0/2) 6148914691236517205)+(Go.bits .and .u64 a0 6148914691236517205)))/4) 3689348814741910323)+(Go.bits .and .u64 (IntKind.u64.wrap ((Go.bits .and .u64 (a0/2) 6148914691236517205)+(Go.bits .and .u64 a0 6148914691236517205))) 3689348814741910323))))) 1085102592571150095)+((Go.bits .and .u64 (IntKind.u64.wrap (((IntKind.u64.wrap ((Go.bits .and .u64 ((IntKind.u64.wrap ((Go.bits .and .u64 (a0/2) 6148914691236517205)+(Go.bits .and .u64 a0 6148914691236517205)))/4) 3689348814741910323)+(Go.bits .and .u64 (IntKind.u64.wrap ((Go.bits .and .u64 (a0/2) 6148914691236517205)+(Go.bits .and .u64 a0 6148914691236517205))) 3689348814741910323)))/16)+(IntKind.u64.wrap ((Go.bits .and .u64 ((IntKind.u64.wrap ((Go.bits .and .u64 (a0/2) 6148914691236517205)+(Go.bits .and .u64 a0 6148914691236517205)))/4) 3689348814741910323)+(Go.bits .and .u64 (IntKind.u64.wrap ((Go.bits .and .u64 (a0/2) 6148914691236517205)+(Go.bits .and .u64 a0 6148914691236517205))) 3689348814741910323))))) 1085102592571150095)/256)))/65536)))/4294967296)))) 127)
set_option maxHeartbeats 8000000 in
set_option maxRecDepth 100000 in
theorem bits_OnesCount64.calls (a0:Int) (r:Int) (w:World) (h:bits_OnesCount64.f a0=some r) :
    Calls Tryd.prog 202 #[.int .u64 a0] w fun e w'=>e=.returned (.int .i64 r)∧Drawn0 w w':=by
  (have H:(some (Go.bits .and .i64 (wrap64 (IntKind.u64.wrap ((IntKind.u64.wrap ((IntKind.u64.wrap ((Go.bits .and .u64 (IntKind.u64.wrap (((IntKind.u64.wrap ((Go.bits .and .u64 ((IntKind.u64.wrap ((Go.bits .and .u64 (a0/2) 6148914691236517205)+(Go.bits .and .u64 a0 6148914691236517205)))/4) 3689348814741910323)+(Go.bits .and .u64 (IntKind.u64.wrap ((Go.bits .and .u64 (a0/2) 6148914691236517205)+(Go.bits .and .u64 a0 6148914691236517205))) 3689348814741910323)))/16)+(IntKind.u64.wrap ((Go.bits .and .u64 ((IntKind.u64.wrap ((Go.bits .and .u64 (a0/2) 6148914691236517205)+(Go.bits .and .u64 a0 6148914691236517205)))/4) 3689348814741910323)+(Go.bits .and .u64 (IntKind.u64.wrap ((Go.bits .and .u64 (a0/2) 6148914691236517205)+(Go.bits .and .u64 a0 6148914691236517205))) 3689348814741910323))))) 1085102592571150095)+((Go.bits .and .u64 (IntKind.u64.wrap (((IntKind.u64.wrap ((Go.bits .and .u64 ((IntKind.u64.wrap ((Go.bits .and .u64 (a0/2) 6148914691236517205)+(Go.bits .and .u64 a0 6148914691236517205)))/4) 3689348814741910323)+(Go.bits .and .u64 (IntKind.u64.wrap ((Go.bits .and .u64 (a0/2) 6148914691236517205)+(Go.bits .and .u64 a0 6148914691236517205))) 3689348814741910323)))/16)+(IntKind.u64.wrap ((Go.bits .and .u64 ((IntKind.u64.wrap ((Go.bits .and .u64 (a0/2) 6148914691236517205)+(Go.bits .and .u64 a0 6148914691236517205)))/4) 3689348814741910323)+(Go.bits .and .u64 (IntKind.u64.wrap ((Go.bits .and .u64 (a0/2) 6148914691236517205)+(Go.bits .and .u64 a0 6148914691236517205))) 3689348814741910323))))) 1085102592571150095)/256)))+((IntKind.u64.wrap ((Go.bits .and .u64 (IntKind.u64.wrap (((IntKind.u64.wrap ((Go.bits .and .u64 ((IntKind.u64.wrap ((Go.bits .and .u64 (a0/2) 6148914691236517205)+(Go.bits .and .u64 a0 6148914691236517205)))/4) 3689348814741910323)+(Go.bits .and .u64 (IntKind.u64.wrap ((Go.bits .and .u64 (a0/2) 6148914691236517205)+(Go.bits .and .u64 a0 6148914691236517205))) 3689348814741910323)))/16)+(IntKind.u64.wrap ((Go.bits .and .u64 ((IntKind.u64.wrap ((Go.bits .and .u64 (a0/2) 6148914691236517205)+(Go.bits .and .u64 a0 6148914691236517205)))/4) 3689348814741910323)+(Go.bits .and .u64 (IntKind.u64.wrap ((Go.bits .and .u64 (a0/2) 6148914691236517205)+(Go.bits .and .u64 a0 6148914691236517205))) 3689348814741910323))))) 1085102592571150095)+((Go.bits .and .u64 (IntKind.u64.wrap (((IntKind.u64.wrap ((Go.bits .and .u64 ((IntKind.u64.wrap ((Go.bits .and .u64 (a0/2) 6148914691236517205)+(Go.bits .and .u64 a0 6148914691236517205)))/4) 3689348814741910323)+(Go.bits .and .u64 (IntKind.u64.wrap ((Go.bits .and .u64 (a0/2) 6148914691236517205)+(Go.bits .and .u64 a0 6148914691236517205))) 3689348814741910323)))/16)+(IntKind.u64.wrap ((Go.bits .and .u64 ((IntKind.u64.wrap ((Go.bits .and .u64 (a0/2) 6148914691236517205)+(Go.bits .and .u64 a0 6148914691236517205)))/4) 3689348814741910323)+(Go.bits .and .u64 (IntKind.u64.wrap ((Go.bits .and .u64 (a0/2) 6148914691236517205)+(Go.bits .and .u64 a0 6148914691236517205))) 3689348814741910323))))) 1085102592571150095)/256)))/65536)))+((IntKind.u64.wrap ((IntKind.u64.wrap ((Go.bits .and .u64 (IntKind.u64.wrap (((IntKind.u64.wrap ((Go.bits .and .u64 ((IntKind.u64.wrap ((Go.bits .and .u64 (a0/2) 6148914691236517205)+(Go.bits .and .u64 a0 6148914691236517205)))/4) 3689348814741910323)+(Go.bits .and .u64 (IntKind.u64.wrap ((Go.bits .and .u64 (a0/2) 6148914691236517205)+(Go.bits .and .u64 a0 6148914691236517205))) 3689348814741910323)))/16)+(IntKind.u64.wrap ((Go.bits .and .u64 ((IntKind.u64.wrap ((Go.bits .and .u64 (a0/2) 6148914691236517205)+(Go.bits .and .u64 a0 6148914691236517205)))/4) 3689348814741910323)+(Go.bits .and .u64 (IntKind.u64.wrap ((Go.bits .and .u64 (a0/2) 6148914691236517205)+(Go.bits .and .u64 a0 6148914691236517205))) 3689348814741910323))))) 1085102592571150095)+((Go.bits .and .u64 (IntKind.u64.wrap (((IntKind.u64.wrap ((Go.bits .and .u64 ((IntKind.u64.wrap ((Go.bits .and .u64 (a0/2) 6148914691236517205)+(Go.bits .and .u64 a0 6148914691236517205)))/4) 3689348814741910323)+(Go.bits .and .u64 (IntKind.u64.wrap ((Go.bits .and .u64 (a0/2) 6148914691236517205)+(Go.bits .and .u64 a0 6148914691236517205))) 3689348814741910323)))/16)+(IntKind.u64.wrap ((Go.bits .and .u64 ((IntKind.u64.wrap ((Go.bits .and .u64 (a0/2) 6148914691236517205)+(Go.bits .and .u64 a0 6148914691236517205)))/4) 3689348814741910323)+(Go.bits .and .u64 (IntKind.u64.wrap ((Go.bits .and .u64 (a0/2) 6148914691236517205)+(Go.bits .and .u64 a0 6148914691236517205))) 3689348814741910323))))) 1085102592571150095)/256)))+((IntKind.u64.wrap ((Go.bits .and .u64 (IntKind.u64.wrap (((IntKind.u64.wrap ((Go.bits .and .u64 ((IntKind.u64.wrap ((Go.bits .and .u64 (a0/2) 6148914691236517205)+(Go.bits .and .u64 a0 6148914691236517205)))/4) 3689348814741910323)+(Go.bits .and .u64 (IntKind.u64.wrap ((Go.bits .and .u64 (a0/2) 6148914691236517205)+(Go.bits .and .u64 a0 6148914691236517205))) 3689348814741910323)))/16)+(IntKind.u64.wrap ((Go.bits .and .u64 ((IntKind.u64.wrap ((Go.bits .and .u64 (a0/2) 6148914691236517205)+(Go.bits .and .u64 a0 6148914691236517205)))/4) 3689348814741910323)+(Go.bits .and .u64 (IntKind.u64.wrap ((Go.bits .and .u64 (a0/2) 6148914691236517205)+(Go.bits .and .u64 a0 6148914691236517205))) 3689348814741910323))))) 1085102592571150095)+((Go.bits .and .u64 (IntKind.u64.wrap (((IntKind.u64.wrap ((Go.bits .and .u64 ((IntKind.u64.wrap ((Go.bits .and .u64 (a0/2) 6148914691236517205)+(Go.bits .and .u64 a0 6148914691236517205)))/4) 3689348814741910323)+(Go.bits .and .u64 (IntKind.u64.wrap ((Go.bits .and .u64 (a0/2) 6148914691236517205)+(Go.bits .and .u64 a0 6148914691236517205))) 3689348814741910323)))/16)+(IntKind.u64.wrap ((Go.bits .and .u64 ((IntKind.u64.wrap ((Go.bits .and .u64 (a0/2) 6148914691236517205)+(Go.bits .and .u64 a0 6148914691236517205)))/4) 3689348814741910323)+(Go.bits .and .u64 (IntKind.u64.wrap ((Go.bits .and .u64 (a0/2) 6148914691236517205)+(Go.bits .and .u64 a0 6148914691236517205))) 3689348814741910323))))) 1085102592571150095)/256)))/65536)))/4294967296)))) 127))=some r:=h);clear h;(obtain rfl:=Option.some.inj H);(go_enter Tryd.func202,Tryd.ntmps202);go_wp2;go_ret;(exact⟨by first|rfl|(simp;done)|(simp[*];done),by repeat(first|exact Drawn0.refl _|apply Drawn0.step)⟩)
def impl_size.f (a0:Int):Option (Int):=(bits_OnesCount64.f (IntKind.u64.wrap (a0))).bind fun t174=>(some t174)
set_option maxHeartbeats 8000000 in
set_option maxRecDepth 100000 in
theorem impl_size.calls (a0:Int) (r:Int) (w:World) (h:impl_size.f a0=some r) :
    Calls Tryd.prog 174 #[.int .i64 a0] w fun e w'=>e=.returned (.int .i64 r)∧Drawn0 w w':=by
  (have H:((bits_OnesCount64.f (IntKind.u64.wrap (a0))).bind fun t174=>(some t174))=some r:=h);clear h;(replace H:=Yq H);(obtain⟨t174,A2,H⟩:=H);(obtain rfl:=Option.some.inj H);(go_enter Tryd.func174,Tryd.ntmps174);(go_wp2_with(first|(refine Y5 202 (some 5) Tryd.func202 #[.int .u64 (IntKind.u64.wrap (a0))] ?_;(with_reducible refine(bits_OnesCount64.calls (IntKind.u64.wrap (a0)) t174 _ A2.out).mono ?_);rintro e w' ⟨rfl,⟨nd,rfl⟩⟩;refine⟨_,rfl,?_⟩)));go_ret;(exact⟨by first|rfl|(simp;done)|(simp[*];done),by repeat(first|exact Drawn0.refl _|apply Drawn0.step)⟩)
def slices_Concat_int64_int64.f (l0:List (List Int)):Option (List Int):=if 1≤l0.flatten.length then(if l0.flatten.length≤1000000 then(if l0.length≤1000000 then some l0.flatten else none)else none)else none
theorem slices_Concat_int64_int64.sum (S L:Nat) (h:S+L≤1000000):wrap64 ((S:Int)+(L:Int))=((S+L:Nat):Int)∧IntKind.i64.wrap ((S:Int)+(L:Int))=((S+L:Nat):Int)∧decide (((S+L:Nat):Int)<0)=false∧decide ((S:Int)+(L:Int)<0)=false:=by
  refine⟨?_,?_,decide_eq_false (by omega),decide_eq_false (by omega)⟩
  · unfold wrap64
    omega
  · rw[IntKind.wrap_i64]
    omega
set_option maxHeartbeats 4000000 in
theorem slices_Concat_int64_int64.grow (n:Nat) (n1:1≤n) (n2:n≤1000000) (w:World) :
    Calls Tryd.prog 203 #[.slice none 0 0,.int .i64 n] w fun e w'=>∃v0_:Value,e=.returned (v0_)∧Kd.R (Kd.int .i64) 2 w' w.heap.size (fun _=>True) v0_ ([]:List Int)∧Below w.heap.size w w':=by
  obtain⟨i0,hi0,hz0,hs0,hb0⟩:∃i0:TypeInfo,Tryd.prog.info? 2=some i0∧i0.zero=some (.int .i64 0)∧i0.size=1∧i0.bytes=8:=by
    have h:=info2
    cases hi:Tryd.prog.info? 2 with
    |none=>rw[hi]at h;cases h
    |some i0=>
      rw[hi]at h
      have h2:=Option.some.inj h
      exact⟨i0,rfl,congrArg (fun p=>p.1) h2,congrArg (fun p=>p.2.1) h2,congrArg (fun p=>p.2.2) h2⟩
  have hrun:∀W:World,(Builtin.append_ #[24,3] 24 #[.slice none 0 0,.int .i64 n]).run Tryd.prog W=.ok (.slice (some ⟨W.heap.size,0,none⟩) n (grownCap W n 0 2)) (W.drew.alloc (.cells (Builtin.zeroCells (Value.int .i64 0).cells n++Builtin.zeroCells (Value.int .i64 0).cells (grownCap W n 0 2-n)) 2)):=
    fun W=>Lib.run_append_nil_zeros W 24 3 24 2 i0 (.int .i64 0) .i64 .i64 Tryd.underlying24 Tryd.underlying3 hi0 hz0 n (by omega) (by omega) (by omega) (by rw[hb0];omega)
  have hc1:∀W:World,n≤grownCap W n 0 2:=fun W=>grownCap_ge W n 0 _
  have hc2:∀W:World,grownCap W n 0 2≤maxLen:=fun W=>grownCap_le_maxLen W n 0 _ (by unfold maxLen;omega)
  have HC1:=Aside0.mk hc1
  have HC2:=Aside0.mk hc2
  have HRUN:=Aside0.mk hrun
  have HI:=Aside0.mk hi0
  clear hc1 hc2 hrun hi0 hz0 hs0 hb0
  have p0:¬((n:Int)<0):=by omega
  have p1:0<(n:Int):=by omega
  have q1:wrap64 ((n:Int)-0)=(n:Int):=by unfold wrap64;omega
  have d1:decide ((n:Int)<0)=false:=decide_eq_false (by omega)
  have d2:decide (0<(n:Int))=true:=decide_eq_true (by omega)
  go_enter Tryd.func203,Tryd.ntmps203
  go_wp2_with(at_builtin;refine Lib.wpList_append_run _ rfl _ _ _ _ rfl _ _ rfl rfl _ _ (HRUN.out _) ?_)
  go_ret
  refine⟨_,rfl,?_,((Below.refl _ _).drew).alloc (Nat.le_refl _) _⟩
  refine Kd.R_of_own ⟨by simp[encs],.inr ⟨w.heap.size,grownCap w n 0 2,_,rfl,Nat.le_refl _,blk_new w.drew _,Nat.zero_le _,HC2.out w,?_,by simp[encs]⟩⟩ (fun _ _=>trivial)
  have:=HC1.out w
  simp[Builtin.zeroCells,Value.cells]
  omega
set_option maxHeartbeats 8000000 in
set_option maxRecDepth 100000 in
theorem slices_Concat_int64_int64.calls (A0:Option Addr) (c0:Nat) (l0:List (List Int)) (r:List Int) (w:World) (hr0:Kd.C (Kd.slice 2 (Kd.int .i64)) w A0 l0.length l0) (hc0:l0.length≤c0) (h:slices_Concat_int64_int64.f l0=some r) :
    Calls Tryd.prog 175 #[.slice A0 l0.length c0] w fun e w'=>∃v0_:Value,e=.returned (v0_)∧Kd.R (Kd.int .i64) 2 w' w.heap.size (fun _=>True) v0_ r∧Below w.heap.size w w':=by
  unfold slices_Concat_int64_int64.f at h
  split at h
  case isFalse=>cases h
  case isTrue n1=>
  split at h
  case isFalse=>cases h
  case isTrue n2=>
  split at h
  case isFalse=>cases h
  case isTrue n3=>
  obtain rfl:=Option.some.inj h
  clear h
  have HR:=Aside0.mk hr0
  have HC:=Aside0.mk hc0
  obtain⟨sz,hsz⟩:∃sz:Nat→Nat,∀k,sz k=(l0.take k).flatten.length:=⟨fun k=>(l0.take k).flatten.length,fun _=>rfl⟩
  have hstep:∀k,k<l0.length→(l0.take (k+1)).flatten=(l0.take k).flatten++rd_L2 l0 k:=fun k hk=>by
    have e:rd_L2 l0 (k:Int)=l0[k]:=by simp[rd_L2,List.getD_eq_getElem?_getD,List.getElem?_eq_getElem hk]
    rw[e,List.take_succ_eq_append_getElem hk,List.flatten_append]
    simp
  have hszs:∀k,k<l0.length→sz (k+1)=sz k+(rd_L2 l0 k).length:=fun k hk=>by
    rw[hsz,hsz,hstep k hk,List.length_append]
  have hszm:∀k,sz k≤l0.flatten.length:=fun k=>by
    rw[hsz]
    have:l0.flatten=(l0.take k).flatten++(l0.drop k).flatten:=by rw[← List.flatten_append,List.take_append_drop]
    rw[this,List.length_append]
    omega
  have hszn:sz l0.length=l0.flatten.length:=by rw[hsz,List.take_of_length_le (Nat.le_refl _)]
  have HS:=Aside0.mk hszs
  have HM:=Aside0.mk hszm
  have HZ:=Aside0.mk hsz
  have HN:=Aside0.mk hszn
  have HST:=Aside0.mk hstep
  have z0:sz 0=0:=by rw[hsz];rfl
  have HZ0:=Aside0.mk z0
  obtain⟨T,hT⟩:∃T:Nat,l0.flatten.length=T:=⟨_,rfl⟩
  have HT:=Aside0.mk hT
  rw[hT]at n1 n2
  clear hr0 hc0 hsz hstep hszs hszm hszn z0 hT
  have HGR:=fun W=>slices_Concat_int64_int64.grow T n1 n2 W
  go_enter Tryd.func175,Tryd.ntmps175
  go_wp2
  go_loopg[3,5,11] l0.length (fun gg s3 _ s11 wr=>∃kk:Nat,kk≤l0.length∧l0.length-kk≤gg∧s3=.int .i64 (sz kk:Nat)∧s11=.int .i64 kk∧Aside0 (w=wr))
  case atStart=>exact⟨0,Nat.zero_le _,by omega,by rw[HZ0.out];rfl,rfl,⟨rfl⟩⟩
  case round=>
    obtain⟨kk,hkk,hg,rfl,rfl,⟨rfl⟩⟩:=hrel
    by_cases hlt:kk<l0.length
    · have hltz:(kk:Int)<(l0.length:Int):=by omega
      obtain⟨ad,A1,c1,ea,hcell,_,_⟩:=at_L2 HR.out kk (by omega) (by omega)
      cases ea
      rw[Int.toNat_natCast]at hcell
      have hs:=HS.out kk hlt
      have hm:=HM.out (kk+1)
      have hT:=HT.out
      obtain⟨L,hL⟩:∃L:Nat,(rd_L2 l0 kk).length=L:=⟨_,rfl⟩
      rw[hL]at hcell hs
      have hb1:sz kk+L≤1000000:=by omega
      obtain⟨hw,hw2,hn,hn2⟩:=slices_Concat_int64_int64.sum (sz kk) L hb1
      have HSK:=Aside0.mk hs
      clear hs hm hT hL hb1
      generalize sz kk=S at *
      obtain⟨Z,hZ⟩:∃Z:Int,((S+L:Nat):Int)=Z:=⟨_,rfl⟩
      rw[hZ]at hw hw2 hn
      have HZZ:=Aside0.mk hZ
      clear hZ
      go_wp2
      go_roundg(l0.length-(kk+1))
      case measure=>omega
      case rel=>exact⟨kk+1,by omega,by omega,by rw[HSK.out,HZZ.out],by go_num,⟨rfl⟩⟩
    · have hltz:¬(kk:Int)<(l0.length:Int):=by omega
      have hk:kk=l0.length:=by omega
      have hsT:sz kk=T:=by rw[hk,HN.out,HT.out]
      rw[hsT]
      have HK:=Aside0.mk hk
      clear hk hsT
      go_wp2_with(go_at_call 203;refine(HGR _).mono ?_;rintro e w2 ⟨v0,rfl,hR,hb⟩;have HO:=Aside0.mk hR;have HB:=Aside0.mk hb;clear hR hb)
      go_loopg[6,8,27] l0.length (fun gg s6 _ s27 wr=>∃(kk:Nat) (ys:List Int),kk≤l0.length∧l0.length-kk≤gg∧s27=.int .i64 kk∧Aside0 (ys=(l0.take kk).flatten)∧Aside0 (Kd.R (Kd.int .i64) 2 wr w.heap.size (fun _=>True) s6 ys)∧Aside0 (Below w.heap.size w wr))
      case atStart=>exact⟨0,[],Nat.zero_le _,by omega,rfl,⟨by simp⟩,HO,HB⟩
      case round=>
        clear HO HB
        obtain⟨kk,ys,hkk,hg,rfl,HY,HO,HB⟩:=hrel
        obtain⟨Ao,co,eo⟩:=Kd.R_slice HO.out
        subst eo
        by_cases hlt:kk<l0.length
        · have hltz:(kk:Int)<(l0.length:Int):=by omega
          obtain⟨ad,A1,c1,ea,hcell,hl1,hi1⟩:=at_L2 (Kd.C_below HR.out HB.out) kk (by omega) (by omega)
          cases ea
          rw[Int.toNat_natCast]at hcell
          have hst:=HST.out kk hlt
          have hm:=HM.out (kk+1)
          rw[HZ.out,hst,List.length_append,← HY.out]at hm
          have hT:=HT.out
          have hlm:ys.length+(rd_L2 l0 kk).length≤1000000:=by omega
          have HST2:=Aside0.mk hst
          have HI1:=Aside0.mk hi1
          have HL1:=Aside0.mk hl1
          have HLM:=Aside0.mk hlm
          clear hst hm hT hi1 hl1 hlm
          go_wp2_with((with_reducible refine gate_builtin (b:=.append) (xs:=#[.tmp 31,.tmp 32]) rfl ?_);at_builtin;refine Kd.R_append_rows (Kd.int .i64) (w0:=w) w.heap.size rfl (.tmp 31) (.tmp 32) 24 2 (.int .i64 0) 8 rfl Tryd.underlying24 info2 rfl (by decide) (by omega) _ ys (rd_L2 l0 kk) _ _ _ (fun _=>True) (fun _=>False) rfl rfl ?aO ?aR (fun _ _ h=>h) (fun _ h=>h.elim) ?aF ?aB ?aS ?aL ?_;(case aR=>exact HI1.out);(case aB=>exact HB.out);(case aF=>exact(fun _ _=>trivial));(case aO=>exact HO.out);(case aS=>exact(below_size HB.out));(case aL=>have:=HLM.out;simp;omega);intro v128 w5 ho hb hg hat;have n0_:=Aside0.mk (hb);have n1_:=Aside0.mk (ho);clear HB;clear HO;have HB:=n0_;have HO129:=n1_;clear n0_ n1_;clear ho hb hg hat)
          go_roundg(l0.length-(kk+1))
          case measure=>omega
          case rel=>exact⟨kk+1,ys++rd_L2 l0 kk,by omega,by omega,by go_num,⟨by rw[HST2.out,HY.out]⟩,HO129,HB⟩
        · have hltz:¬(kk:Int)<(l0.length:Int):=by omega
          have hk:kk=l0.length:=by omega
          have HK2:=Aside0.mk hk
          clear hk
          go_wp2
          go_ret
          refine⟨_,rfl,?_,HB.out⟩
          have e:ys=l0.flatten:=by rw[HY.out,HK2.out,List.take_of_length_le (Nat.le_refl _)]
          rw[← e]
          exact HO.out
def impl_Digraph_degree.l0:Nat→Int→List Int→Int→Int→Option (Int)
  |0,_,_,_,_=>none
  |k+1,x3,x17,x18,x19=>if x19<x18 then(if 0≤x19 then(if x19<(x17.length:Int)then((impl_size.f (rd x17 x19)).bind fun t189=>(if t189=x3 then(impl_Digraph_degree.l0 k x3 x17 x18 (wrap64 (x19+1)))else(some (-1))))else(none))else(none))else(some x3)
def impl_Digraph_degree.f (k:Nat) (a0_0:Int) (l0_1:List Int):Option (Int):=if 0<(l0_1.length:Int)then((impl_size.f (rd l0_1 0)).bind fun t177=>((impl_Digraph_reversed.f k a0_0 l0_1).bind fun bt178=>((slices_Concat_int64_int64.f (([l0_1,bt178.2]:List (List Int)))).bind fun t185=>(impl_Digraph_degree.l0 k t177 t185 (t185.length:Int) 0))))else(none)
def impl_Digraph_degree.T2:Bool × List (List Nat × List Nat):=(true,[([],[]),([0],[0]),([],[]),([2],[2]),([3],[3]),([1,4],[1,4]),([5,3],[5]),([6],[6]),([],[])])
def impl_Digraph_degree.B2:List Nat:=[0,1,0,4,12,31,63,127,0]
theorem impl_Digraph_degree.tab2:rtab .any (opsOf Tryd.f116 2)=impl_Digraph_degree.T2:=by kernel_rfl
theorem impl_Digraph_degree.bits2:waitsOk impl_Digraph_degree.T2.2 impl_Digraph_degree.B2=true:=by kernel_rfl
set_option maxHeartbeats 8000000 in
set_option maxRecDepth 100000 in
theorem impl_Digraph_degree.calls (k:Nat) (a0_0:Int) (P0_1_:Nat→Prop) (A0_1:Option Addr) (c0_1:Nat) (l0_1:List Int) (r:Int) (w:World) (hs0_1:Kd.V (Kd.int .i64) 2 w w.heap.size (fun k_=>P0_1_ k_) (.slice A0_1 l0_1.length c0_1) l0_1) (h:impl_Digraph_degree.f k a0_0 l0_1=some r) :
    Calls Tryd.prog 116 #[.agg #[.int .i64 a0_0,.slice A0_1 l0_1.length c0_1]] w fun e w'=>e=.returned (.int .i64 r)∧Below w.heap.size w w':=by
  (have hu43:=Tryd.underlying43);(have hfd43:∀(a_:Int) (A_:Option Addr) (n_ c_:Nat) (W_:World),(Instr.field 43 (.agg #[.int .i64 a_,.slice A_ n_ c_]) 1).run Tryd.prog W_=.ok (.slice A_ n_ c_) W_:=fun _ _ _ _ _=>by kernel_rfl);(have HO0_1:=Aside0.mk (show Kd.V (Kd.int .i64) 2 w w.heap.size (fun k_=>(P0_1_ k_∨w.heap.size≤k_)) (.slice A0_1 l0_1.length c0_1) l0_1 from Kd.V_mono hs0_1 (fun k_ hk=>.inl hk)));(have HB:=Aside0.mk (Below.refl w.heap.size w));(have H:(if 0<(l0_1.length:Int)then((impl_size.f (rd l0_1 0)).bind fun t177=>((impl_Digraph_reversed.f k a0_0 l0_1).bind fun bt178=>((slices_Concat_int64_int64.f (([l0_1,bt178.2]:List (List Int)))).bind fun t185=>(impl_Digraph_degree.l0 k t177 t185 (t185.length:Int) 0))))else(none))=some r:=h);clear h;(replace H:=Yn H);(obtain⟨c2,H⟩:=H);(have c2b0:decide (0<(l0_1.length:Int))=true:=decide_eq_true c2);(have c2b1:decide (0<l0_1.length)=true:=decide_eq_true (by omega));clear c2;(replace H:=Yq H);(obtain⟨t177,A3,H⟩:=H);(replace H:=Yq H);(obtain⟨⟨t178,t179⟩,A4,H⟩:=H);(try dsimp only at H);(obtain⟨y182,Ny182⟩:=Ys (([l0_1,t179]:List (List Int))));(rw[← Ny182.out]at H);(replace H:=Yq H);(obtain⟨t185,A5,H⟩:=H);(have H':=Aside0.mk H);clear H;(go_enter Tryd.func116,Tryd.ntmps116);(try go_wp2_with(first|(refine Y4 1 #[.int .i64 a0_0,.slice A0_1 l0_1.length c0_1] 43 ?_;intro gb175 hg w6 hbox hb;replace HO0_1:=Aside0.mk (Kd.V_below (Kd.V_elderB (by(with_reducible repeat(first|apply Kd.V_alloc|apply Kd.V_drewN|apply Kd.V_drew));exact HO0_1.out) gb175 (Nat.le_of_eq hg.symm)) hb);have BK175:=Aside0.mk (hbox);have GW175:=Yge HB hg;have GE175:=Yge HB hg;replace HB:=Aside0.mk (below_step (Ya) hb);clear hb hbox hg;obtain⟨hcz7_0,hcz7_1,hfz7_0,hfz7_1⟩:=Y2 BK175;have p176:0≤(0:Int):=(by omega);have q176:0<(l0_1.length:Int):=Ym;obtain⟨ad176,e176,hx176_0⟩:=Kd.at_int (Kd.V_reads' HO0_1.out).2.2 0 p176 q176;cases e176;have qi176:(0<l0_1.length)=True:=eq_true (by omega);(try rw[show((0:Int)).toNat=0 from rfl]at hx176_0);(try rw[Addr.add_zero']at hx176_0);replace p176:=eq_true p176;replace q176:=eq_true q176)|(refine Y5 174 (some 10) Tryd.func174 #[.int .i64 (rd l0_1 0)] ?_;(with_reducible refine(impl_size.calls (rd l0_1 0) t177 _ A3.out).mono ?_);rintro e w' ⟨rfl,⟨nd,rfl⟩⟩;refine⟨_,rfl,?_⟩)));(try(rw[drewN_self w6];generalize hq_:World.drewN w6 _=w6;have n0_:Aside0 (Kd.V (Kd.int .i64) 2 w6 w.heap.size (fun k_=>(P0_1_ k_∨w.heap.size≤k_)∧k_≠gb175) (.slice (some ad176) l0_1.length c0_1) l0_1):=⟨by rw[← hq_];exact(by(with_reducible repeat(first|apply Kd.V_alloc|apply Kd.V_drewN|apply Kd.V_drew));exact HO0_1.out)⟩;have n1_:Aside0 (w6.heap[gb175]? =some (.cells #[.int .i64 a0_0,.slice (some ad176) l0_1.length c0_1] 43 (0,0))):=⟨by rw[← hq_];exact(Ye BK175)⟩;have n2_:Aside0 (Below w.heap.size w w6):=⟨by rw[← hq_];exact(Ya)⟩;clear HO0_1 BK175 HB hq_;have HO0_1:=n0_;have BK175:=n1_;have HB:=n2_;clear n0_ n1_ n2_));(try have hcz8_0:w6.cell? ⟨gb175,0,none⟩=some (.int .i64 a0_0):=(blk_cell BK175.out 0).trans rfl);(try have hcz8_1:w6.cell? ⟨gb175,1,none⟩=some (.slice (some ad176) l0_1.length c0_1):=(blk_cell BK175.out 1).trans rfl);(try have hfz8_0:=blk_frozen BK175.out 0);(try have hfz8_1:=blk_frozen BK175.out 1);(replace HO0_1:=Aside0.mk (Kd.V_drew HO0_1.out));(replace BK175:=Aside0.mk (blk_drew BK175.out));(replace HB:=Aside0.mk (below_drew1 HB.out));(refine start_ (n:=9) (S:=fun w'=>w'.cell? ⟨gb175,0,none⟩=some (.int .i64 a0_0)∧w'.cell? ⟨gb175,1,none⟩=some (.slice (some ad176) l0_1.length c0_1)) (ds:=[]) #[false,false,false,false,false,false,false,false,false] (by kernel_rfl) rfl rfl ⟨(blk_cell BK175.out 0).trans rfl,(blk_cell BK175.out 1).trans rfl⟩ (fun hHeld=>?_);refine with_tabW impl_Digraph_degree.tab2 impl_Digraph_degree.bits2 (fun HT_ HW_=>?_));(generalize w6.drew=w9 at HO0_1 BK175 HB hHeld ⊢);(refine Y6 0 (some 11) HT_ ?_);(refine Y6 8 (some 19) HT_ ?_);(refine Y7 1 (some 12) HT_ HW_ hHeld ?_);(refine Y7 2 (some 13) HT_ HW_ hHeld ?_);(refine Y8 3 (some 14) HT_ (fun K hK=>?_));(refine goes_ Tryd.func103 (by kernel_rfl) rfl #[.agg #[.int .i64 a0_0,.slice (some ad176) l0_1.length c0_1]] (by rfl) rfl rfl Yj ?_);(with_reducible refine(impl_Digraph_reversed.calls k a0_0 _ _ l0_1 t178 t179 _ ?side1 ?side2 A4.out).mono ?_);(case side1=>exact Yg ((Kd.V_reads' HO0_1.out).2.2));(case side2=>exact(Kd.V_reads' HO0_1.out).2.1);(rintro e w10 ⟨v180,rfl,ho0,hb⟩);(refine⟨_,rfl,?_⟩);(replace HO0_1:=Aside0.mk (Kd.V_elder' (by(with_reducible repeat(first|apply Kd.V_alloc|apply Kd.V_drewN|apply Kd.V_drew));exact HO0_1.out) (Kd.R_base ho0) hb));(have HO181:=Aside0.mk (Kd.R_lower (Kd.R_newM (M:=fun k_=>(w.heap.size≤k_)) ho0 (below_size (Ya)) (fun k_ h_=>h_)) (below_size (Ya))));(replace BK175:=Aside0.mk (blk_below (Ye BK175) hb));(replace HB:=Aside0.mk (below_step (Ya) hb));clear hb ho0;(obtain⟨Ao11,co11,eo11⟩:=Kd.R_slice HO181.out);(first|subst eo11|(injection eo11 with f1_ f2_ f3_;have f4_:=f1_.symm;have f5_:=f3_.symm;clear f1_ f2_ f3_;subst f4_;subst f5_));(refine hK.out _ _ ⟨(blk_cell BK175.out 0).trans rfl,(blk_cell BK175.out 1).trans rfl⟩ (fun hHeld=>?_));clear hK K;(refine Ynorm (some 14) ?_);(refine Y6 4 (some 15) HT_ ?_);(refine Y8 5 (some 16) HT_ (fun K hK=>?_));(refine Kd.N_lit_step (Kd.slice 2 (Kd.int .i64)) _ 24 ?hg (N':=16) ?hd (xs:=([l0_1,t179]:List (List Int))) (inner:=[.slice (some ad176) l0_1.length c0_1,.slice Ao11 t179.length co11]) (ok:=(fun k_=>(P0_1_ k_∨w.heap.size≤k_)∧k_≠gb175)) (okp:=(fun k_=>(P0_1_ k_∨w.heap.size≤k_)∧k_≠gb175)) ?hr ?hp (fun _ hk=>hk) ((show ∀k_,w10.heap.size≤k_→(fun k_=>(P0_1_ k_∨w.heap.size≤k_)∧k_≠gb175) k_ from fun k_ hk=>⟨(.inr (Nat.le_trans (below_size (Ya)) hk)),Kd.freshB (g:=gb175) (o:=.cells #[.int .i64 a0_0,.slice (some ad176) l0_1.length c0_1] 43 (0,0)) (Ye BK175) k_ hk⟩) _ (Nat.le_refl _)) (Below.refl _ _) (Nat.le_refl _) (by simp) ?_;(case hd=>rfl);(case hg=>rfl);(case hr=>first|(go_simp;done)|(go_simp;rfl));(case hp=>exact(Reps.one (show Kd.FK (Kd.slice 2 (Kd.int .i64)) _ _ l0_1 [.slice (some ad176) l0_1.length c0_1] from(Kd.FK_slice_mk (Kd.V_reads' (Kd.V_mono (ok':=(fun k_=>(P0_1_ k_∨w.heap.size≤k_)∧k_≠gb175)) (HO0_1.out) (fun k_ hk=>⟨hk.1.1,hk.1.2⟩))).2.1 (Kd.V_F (Kd.V_mono (ok':=(fun k_=>(P0_1_ k_∨w.heap.size≤k_)∧k_≠gb175)) (HO0_1.out) (fun k_ hk=>⟨hk.1.1,hk.1.2⟩))))) (Reps.one (show Kd.FK (Kd.slice 2 (Kd.int .i64)) _ _ t179 [.slice Ao11 t179.length co11] from(Kd.FK_slice_mk (Kd.R_reads' (Kd.R_mono (ok':=(fun k_=>(P0_1_ k_∨w.heap.size≤k_)∧k_≠gb175)) (Kd.R_types (HO181.out) BK175.out (by decide)) (fun k_ hk=>⟨(.inr (hk.1.1)),hk.2⟩))).2.1 (Kd.R_F (Kd.R_mono (ok':=(fun k_=>(P0_1_ k_∨w.heap.size≤k_)∧k_≠gb175)) (Kd.R_types (HO181.out) BK175.out (by decide)) (fun k_ hk=>⟨(.inr (hk.1.1)),hk.2⟩))))) (Reps.none _ _)))));(intro v183 w12 ho13 hb hg_ hnew_);clear hg_ hnew_;(first|rw[← Ny182.out]at ho13|(simp only[Int.reduceToNat]at ho13;rw[← Ny182.out]at ho13));(have n0_:=Aside0.mk (Kd.V_elder' (by(with_reducible repeat(first|apply Kd.V_alloc|apply Kd.V_drewN|apply Kd.V_drew));exact HO0_1.out) (Kd.N_base ho13) hb));(have n1_:=Aside0.mk (Kd.N_lower ho13 (below_size (Ya))));(have n2_:=Aside0.mk (blk_below (Ye BK175) hb));(have n3_:=Aside0.mk (below_step (Ya) hb));clear HO0_1;clear BK175;clear HB;clear HO181;(have HO0_1:=n0_);(have HO184:=n1_);(have BK175:=n2_);(have HB:=n3_);clear n0_ n1_ n2_ n3_;clear hb ho13;(obtain⟨Ao14,co14,eo14⟩:=Kd.N_slice HO184.out);(first|subst eo14|(injection eo14 with f1_ f2_ f3_;have f4_:=f1_.symm;have f5_:=f3_.symm;clear f1_ f2_ f3_;subst f4_;subst f5_));(refine hK.out _ _ ⟨(blk_cell BK175.out 0).trans rfl,(blk_cell BK175.out 1).trans rfl⟩ (fun hHeld=>?_));clear hK K;(refine Ynorm (some 16) ?_);(refine Y8 6 (some 17) HT_ (fun K hK=>?_));(refine goes_ Tryd.func175 (by kernel_rfl) rfl #[.slice Ao14 y182.length co14] (by rfl) rfl rfl Yj ?_);(with_reducible refine(slices_Concat_int64_int64.calls _ _ y182 t185 _ ?side1 ?side2 A5.out).mono ?_);(case side1=>exact Yg ((Kd.N_reads' HO184.out).2.2));(case side2=>exact(Kd.N_reads' HO184.out).2.1);(rintro e w15 ⟨v186,rfl,ho0,hb⟩);(refine⟨_,rfl,?_⟩);(replace HO0_1:=Aside0.mk (Kd.V_elder' (by(with_reducible repeat(first|apply Kd.V_alloc|apply Kd.V_drewN|apply Kd.V_drew));exact HO0_1.out) (Kd.R_base ho0) hb));(replace HO184:=Aside0.mk (Kd.N_elder' (by(with_reducible repeat(first|apply Kd.N_alloc|apply Kd.N_drewN|apply Kd.N_drew));exact HO184.out) (Kd.R_base ho0) hb));(have HO187:=Aside0.mk (Kd.R_lower (Kd.R_newM (M:=fun k_=>(w.heap.size≤k_)) ho0 (below_size (Ya)) (fun k_ h_=>h_)) (below_size (Ya))));(replace BK175:=Aside0.mk (blk_below (Ye BK175) hb));(replace HB:=Aside0.mk (below_step (Ya) hb));clear hb ho0;(obtain⟨Ao16,co16,eo16⟩:=Kd.R_slice HO187.out);(first|subst eo16|(injection eo16 with f1_ f2_ f3_;have f4_:=f1_.symm;have f5_:=f3_.symm;clear f1_ f2_ f3_;subst f4_;subst f5_));(refine hK.out _ _ ⟨(blk_cell BK175.out 0).trans rfl,(blk_cell BK175.out 1).trans rfl⟩ (fun hHeld=>?_));clear hK K;(refine Ynorm (some 17) ?_);(refine Y6 7 (some 18) HT_ ?_);(refine done_ (done_of HT_.out (by kernel_rfl)) ?_);(try go_wp2);(go_loopg[19] k (fun kq v19 w'=>∃(x19_1:Int),v19=.int .i64 x19_1∧Aside0 (impl_Digraph_degree.l0 kq t177 t185 (t185.length:Int) x19_1=some r)∧Aside0 (kq≤k)∧Aside0 (Kd.R (Kd.int .i64) 2 w' w.heap.size (fun k_=>(w.heap.size≤k_)) (.slice Ao16 t185.length co16) t185)∧Aside0 (Kd.V (Kd.int .i64) 2 w' w.heap.size (fun k_=>(P0_1_ k_∨w.heap.size≤k_)∧some k_≠((.slice Ao16 t185.length co16):Value).ownBlock∧k_≠gb175) (.slice (some ad176) l0_1.length c0_1) l0_1)∧Aside0 (w'.heap[gb175]? =some (.cells #[.int .i64 a0_0,(.slice (some ad176) l0_1.length c0_1)] 43 (0,0)))∧Aside0 (Below w.heap.size w w')));(case atStart=>exact⟨(0),Yk,H',⟨Nat.le_refl _⟩,⟨YbR (Kd.R_mono HO187.out (fun _ hk=>hk.1))⟩,⟨by(with_reducible repeat(first|apply Kd.V_alloc|apply Kd.V_drewN|apply Kd.V_drew));exact Kd.V_mono HO0_1.out (fun _ hk=>⟨hk.1.1.1.1,⟨hk.2,hk.1.1.1.2⟩⟩)⟩,⟨Ye BK175⟩,⟨Ya⟩⟩)
  case round=>
    (clear H');(try clear c2b0);(try clear c2b1);(try clear hcz7_0);(try clear hcz7_1);(try clear hcz8_0);(try clear hcz8_1);(try clear hfz7_0);(try clear hfz7_1);(try clear hfz8_0);(try clear hfz8_1);(try clear hx176_0);(try clear p176);(try clear q176);(obtain⟨x19_1,rfl,HA,HK1,HO_17,HO_176001,BK175,HB⟩:=hrel)
    cases gk with
    |zero=>exact absurd HA.out (by simp[impl_Digraph_degree.l0])
    |succ k1=>
      (have H:=HA.out);clear HA;(simp only[impl_Digraph_degree.l0]at H);(replace H:=Yp H);(obtain⟨c17,H⟩|⟨c17,H⟩:=H);(· (have c17b0:=decide_eq_true c17);clear c17;(replace H:=Dn2 H);(obtain⟨c18b0,c19b0,H⟩:=H);(replace H:=Yq H);(obtain⟨t189,A20,H⟩:=H);(replace H:=Yp H);(obtain⟨c21,H⟩|⟨c21,H⟩:=H);(· (obtain⟨c21b0,c21b1⟩:=Yv c21);clear c21;(have H':=Aside0.mk H);clear H;(have p188:0≤(x19_1:Int):=Ym);(have q188:x19_1<(t185.length:Int):=Ym);(obtain⟨ad188,e188,hx188_0⟩:=Kd.at_int (Kd.R_reads' HO_17.out).2.2 x19_1 p188 q188);(cases e188);(replace p188:=eq_true p188);(replace q188:=eq_true q188);(go_wp2_with(first|(refine Y5 174 (some 24) Tryd.func174 #[.int .i64 (rd t185 x19_1)] ?_;(with_reducible refine(impl_size.calls (rd t185 x19_1) t189 _ A20.out).mono ?_);rintro e w' ⟨rfl,⟨nd,rfl⟩⟩;refine⟨_,rfl,?_⟩)));(go_roundg k1);(case measure=>have:=HK1.out;omega);(case rel=>exact⟨(wrap64 (x19_1+1)),Yk,H',⟨by have:=HK1.out;omega⟩,⟨YcR HO_17⟩,⟨by(with_reducible repeat(first|apply Kd.V_alloc|apply Kd.V_drewN|apply Kd.V_drew));exact HO_176001.out⟩,⟨Ye BK175⟩,⟨Ya⟩⟩));(· (obtain⟨c21b0,c21b1⟩:=Yw c21);(obtain rfl:=Option.some.inj H);(have p188:0≤(x19_1:Int):=Ym);(have q188:x19_1<(t185.length:Int):=Ym);(obtain⟨ad188,e188,hx188_0⟩:=Kd.at_int (Kd.R_reads' HO_17.out).2.2 x19_1 p188 q188);(cases e188);(replace p188:=eq_true p188);(replace q188:=eq_true q188);(go_wp2_with(first|(refine Y5 174 (some 24) Tryd.func174 #[.int .i64 (rd t185 x19_1)] ?_;(with_reducible refine(impl_size.calls (rd t185 x19_1) t189 _ A20.out).mono ?_);rintro e w' ⟨rfl,⟨nd,rfl⟩⟩;refine⟨_,rfl,?_⟩)));go_ret;(exact⟨Yl,Ya⟩)))
      · have c17b0:=decide_eq_false c17
        clear c17;(obtain rfl:=Option.some.inj H);go_wp2;go_ret;(exact⟨Yl,Ya⟩)
def impl_DegreeOfDigraph.f (k:Nat) (a0_0:Int) (l0_1:List Int):Option (Int × Int):=(impl_IsDigraph.f a0_0 l0_1).bind fun t191=>(if t191=true then((impl_Digraph_degree.f k a0_0 l0_1).bind fun t192=>(if t192<0 then(some (0,5))else(some (t192,0))))else(some (0,1)))
set_option maxHeartbeats 8000000 in
set_option maxRecDepth 100000 in
theorem impl_DegreeOfDigraph.calls (k:Nat) (a0_0:Int) (A0_1:Option Addr) (c0_1:Nat) (l0_1:List Int) (r1:Int) (r2:Int) (w:World) (hr0_1:Kd.C (Kd.int .i64) w A0_1 l0_1.length l0_1) (hc0_1:l0_1.length≤c0_1) (h:impl_DegreeOfDigraph.f k a0_0 l0_1=some (r1,r2)) :
    Calls Tryd.prog 48 #[.agg #[.int .i64 a0_0,.slice A0_1 l0_1.length c0_1]] w fun e w'=>e=.returned (.tuple #[.int .i64 r1,.int .i64 r2])∧Below w.heap.size w w':=by
  (have hu43:=Tryd.underlying43);(have HR0_1:=Aside0.mk hr0_1);(have HC0_1:=Aside0.mk hc0_1);clear hr0_1 hc0_1;(have HB:=Aside0.mk (Below.refl w.heap.size w));(have H:((impl_IsDigraph.f a0_0 l0_1).bind fun t191=>(if t191=true then((impl_Digraph_degree.f k a0_0 l0_1).bind fun t192=>(if t192<0 then(some (0,5))else(some (t192,0))))else(some (0,1))))=some (r1,r2):=h);clear h;(replace H:=Yq H);(obtain⟨t191,A2,H⟩:=H);(by_cases c3:t191=true);(· subst c3;(replace H:=Ybt H);(replace H:=Yq H);(obtain⟨t192,A4,H⟩:=H);(replace H:=Yp H);(obtain⟨c5,H⟩|⟨c5,H⟩:=H);(· (have c5b0:=decide_eq_true c5);clear c5;(simp only[Option.some.injEq,Prod.mk.injEq]at H);(obtain⟨rfl,rfl⟩:=H);(go_enter Tryd.func48,Tryd.ntmps48);(go_wp2_with(first|(refine Y4 1 #[.int .i64 a0_0,.slice A0_1 l0_1.length c0_1] 43 ?_;intro gb190 hg w6 hbox hb;have BK190:=Aside0.mk (hbox);have GW190:=Yge HB hg;have GE190:=Yge HB hg;replace HB:=Aside0.mk (below_step (Ya) hb);clear hb hbox hg;obtain⟨hcz7_0,hcz7_1,hfz7_0,hfz7_1⟩:=Y2 BK190)|(refine Y5 28 (some 6) Tryd.func28 #[.agg #[.int .i64 a0_0,.slice A0_1 l0_1.length c0_1]] ?_;(with_reducible refine(impl_IsDigraph.calls a0_0 _ _ l0_1 true _ ?side1 ?side2 A2.out).mono ?_);(case side1=>exact Yg (Kd.C_below HR0_1.out HB.out));(case side2=>exact HC0_1.out);rintro e w8 ⟨rfl,hb⟩;refine⟨_,rfl,?_⟩;replace BK190:=Aside0.mk (blk_below (Ye BK190) hb);replace HB:=Aside0.mk (below_step (Ya) hb);clear hb;obtain⟨hcz9_0,hcz9_1,hfz9_0,hfz9_1⟩:=Y2 BK190)|(refine Y5 116 (some 9) Tryd.func116 #[.agg #[.int .i64 a0_0,.slice A0_1 l0_1.length c0_1]] ?_;(with_reducible refine(impl_Digraph_degree.calls k a0_0 (fun k_=>k_<w.heap.size) _ _ l0_1 t192 _ ?side1 A4.out).mono ?_);(case side1=>exact Kd.V_mk HC0_1.out (Kd.F_below (Kd.C_F (Kd.heap_int .i64) HR0_1.out) (Ya)));rintro e w10 ⟨rfl,hb⟩;refine⟨_,rfl,?_⟩;replace BK190:=Aside0.mk (blk_below (Ye BK190) hb);replace HB:=Aside0.mk (below_step (Ya) hb);clear hb)));(go_ret2);(exact⟨Yl,Ya⟩));(· (have c5b0:=decide_eq_false c5);clear c5;(simp only[Option.some.injEq,Prod.mk.injEq]at H);(obtain⟨rfl,rfl⟩:=H);(go_enter Tryd.func48,Tryd.ntmps48);(go_wp2_with(first|(refine Y4 1 #[.int .i64 a0_0,.slice A0_1 l0_1.length c0_1] 43 ?_;intro gb190 hg w11 hbox hb;have BK190:=Aside0.mk (hbox);have GW190:=Yge HB hg;have GE190:=Yge HB hg;replace HB:=Aside0.mk (below_step (Ya) hb);clear hb hbox hg;obtain⟨hcz12_0,hcz12_1,hfz12_0,hfz12_1⟩:=Y2 BK190)|(refine Y5 28 (some 6) Tryd.func28 #[.agg #[.int .i64 a0_0,.slice A0_1 l0_1.length c0_1]] ?_;(with_reducible refine(impl_IsDigraph.calls a0_0 _ _ l0_1 true _ ?side1 ?side2 A2.out).mono ?_);(case side1=>exact Yg (Kd.C_below HR0_1.out HB.out));(case side2=>exact HC0_1.out);rintro e w13 ⟨rfl,hb⟩;refine⟨_,rfl,?_⟩;replace BK190:=Aside0.mk (blk_below (Ye BK190) hb);replace HB:=Aside0.mk (below_step (Ya) hb);clear hb;obtain⟨hcz14_0,hcz14_1,hfz14_0,hfz14_1⟩:=Y2 BK190)|(refine Y5 116 (some 9) Tryd.func116 #[.agg #[.int .i64 a0_0,.slice A0_1 l0_1.length c0_1]] ?_;(with_reducible refine(impl_Digraph_degree.calls k a0_0 (fun k_=>k_<w.heap.size) _ _ l0_1 t192 _ ?side1 A4.out).mono ?_);(case side1=>exact Kd.V_mk HC0_1.out (Kd.F_below (Kd.C_F (Kd.heap_int .i64) HR0_1.out) (Ya)));rintro e w15 ⟨rfl,hb⟩;refine⟨_,rfl,?_⟩;replace BK190:=Aside0.mk (blk_below (Ye BK190) hb);replace HB:=Aside0.mk (below_step (Ya) hb);clear hb)));(go_ret2);(exact⟨Yl,Ya⟩)))
  · replace c3:=Bool.eq_false_iff.mpr c3
    subst c3;(replace H:=Ybf H);(simp only[Option.some.injEq,Prod.mk.injEq]at H);(obtain⟨rfl,rfl⟩:=H);(go_enter Tryd.func48,Tryd.ntmps48);(go_wp2_with(first|(refine Y4 1 #[.int .i64 a0_0,.slice A0_1 l0_1.length c0_1] 43 ?_;intro gb190 hg w16 hbox hb;have BK190:=Aside0.mk (hbox);have GW190:=Yge HB hg;have GE190:=Yge HB hg;replace HB:=Aside0.mk (below_step (Ya) hb);clear hb hbox hg;obtain⟨hcz17_0,hcz17_1,hfz17_0,hfz17_1⟩:=Y2 BK190)|(refine Y5 28 (some 6) Tryd.func28 #[.agg #[.int .i64 a0_0,.slice A0_1 l0_1.length c0_1]] ?_;(with_reducible refine(impl_IsDigraph.calls a0_0 _ _ l0_1 false _ ?side1 ?side2 A2.out).mono ?_);(case side1=>exact Yg (Kd.C_below HR0_1.out HB.out));(case side2=>exact HC0_1.out);rintro e w18 ⟨rfl,hb⟩;refine⟨_,rfl,?_⟩;replace BK190:=Aside0.mk (blk_below (Ye BK190) hb);replace HB:=Aside0.mk (below_step (Ya) hb);clear hb)));(go_ret2);(exact⟨Yl,Ya⟩)
end Go.Proofs.YtmofdldplbplbaaDoor.P
