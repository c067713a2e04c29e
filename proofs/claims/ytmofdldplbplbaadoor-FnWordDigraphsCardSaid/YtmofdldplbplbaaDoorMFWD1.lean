-- Printed by a program of this workplace (wip/xp/xp.py), joined by wip/bin/mergeP.
import Derived.Test.YtmofdldplbplbaaDoorMFWD0
namespace Go.Proofs.YtmofdldplbplbaaDoor.P
open Go.RowKit Go.Proofs.YtmofdldplbplbaaDoorW.PrintWords Go.Proofs.YtmofdldplbplbaaDoorW.PrintLast Go.Proofs.YtmofdldplbplbaaDoorW.PrintMore
attribute [local go_sem] max2_int min2_int max_two min_two max_three min_three max_four min_four
set_option linter.unusedVariables false
set_option linter.unusedSimpArgs false
def slices_Equal_int64_int64.l0:Nat→List Int→List Int→Int→Int→Option (Bool)
  |0,_,_,_,_=>none
  |k+1,x0,x1,x12,x13=>if x13<x12 then(if 0≤x13 then(if x13<(x0.length:Int)then(if x13<(x1.length:Int)then(if(rd x0 x13)=(rd x1 x13)then(slices_Equal_int64_int64.l0 k x0 x1 x12 (wrap64 (x13+1)))else(some false))else(none))else(none))else(none))else(some true)
def slices_Equal_int64_int64.f (k:Nat) (l0:List Int) (l1:List Int):Option (Bool):=if(l0.length:Int)=(l1.length:Int)then(slices_Equal_int64_int64.l0 k l0 l1 (l0.length:Int) 0)else(some false)
set_option maxHeartbeats 8000000 in
set_option maxRecDepth 100000 in
theorem slices_Equal_int64_int64.calls (k:Nat) (A0:Option Addr) (c0:Nat) (l0:List Int) (A1:Option Addr) (c1:Nat) (l1:List Int) (r:Bool) (w:World) (hr0:Kd.C (Kd.int .i64) w A0 l0.length l0) (hc0:l0.length≤c0) (hr1:Kd.C (Kd.int .i64) w A1 l1.length l1) (hc1:l1.length≤c1) (h:slices_Equal_int64_int64.f k l0 l1=some r) :
    Calls Tryd.prog 190 #[.slice A0 l0.length c0,.slice A1 l1.length c1] w fun e w'=>e=.returned (.bool r)∧Drawn0 w w':=by
  (have HR0:=Aside0.mk hr0);(have HC0:=Aside0.mk hc0);clear hr0 hc0;(have HR1:=Aside0.mk hr1);(have HC1:=Aside0.mk hc1);clear hr1 hc1;(have H:(if(l0.length:Int)=(l1.length:Int)then(slices_Equal_int64_int64.l0 k l0 l1 (l0.length:Int) 0)else(some false))=some r:=h);clear h;(replace H:=Yp H);(obtain⟨c3,H⟩|⟨c3,H⟩:=H)
  · obtain⟨c3b0,c3b1⟩:=Yv c3
    (have c3b2:(l0.length==l1.length)=true:=by first|simpa using c3|(simp at c3 ⊢;omega));clear c3;(have H':=Aside0.mk H);clear H;(go_enter Tryd.func190,Tryd.ntmps190);go_wp2;(repeat(go_quiet(fail);try go_wp2));(go_loopg[13] k (fun kq v13 w'=>∃(x13_1:Int),v13=.int .i64 x13_1∧Aside0 (slices_Equal_int64_int64.l0 kq l0 l1 (l0.length:Int) x13_1=some r)∧Aside0 (kq≤k)∧Drawn0 w w'));(case atStart=>exact⟨(0),Yk,H',⟨Nat.le_refl _⟩,by repeat(first|exact Drawn0.refl _|apply Drawn0.step)⟩)
    case round=>
      (clear H');(try clear c3b0);(try clear c3b1);(try clear c3b2);(obtain⟨x13_1,rfl,HA,HK1,⟨m1,rfl⟩⟩:=hrel)
      cases gk with
      |zero=>exact absurd HA.out (by simp[slices_Equal_int64_int64.l0])
      |succ k1=>
        (have H:=HA.out);clear HA;(simp only[slices_Equal_int64_int64.l0]at H);(replace H:=Yp H);(obtain⟨c4,H⟩|⟨c4,H⟩:=H);(· (have c4b0:=decide_eq_true c4);clear c4;(replace H:=Dn3 H);(obtain⟨c5b0,c6b0,c7b0,H⟩:=H);(replace H:=Yp H);(obtain⟨c8,H⟩|⟨c8,H⟩:=H);(· (obtain⟨c8b0,c8b1⟩:=Yv c8);clear c8;(have H':=Aside0.mk H);clear H;(have p101:0≤(x13_1:Int):=Ym);(have q101:x13_1<(l0.length:Int):=Ym);(obtain⟨ad101,e101,hx101_0⟩:=Kd.at_int HR0.out x13_1 p101 q101);(cases e101);(replace p101:=eq_true p101);(replace q101:=eq_true q101);(have p102:0≤(x13_1:Int):=Ym);(have q102:x13_1<(l1.length:Int):=Ym);(obtain⟨ad102,e102,hx102_0⟩:=Kd.at_int HR1.out x13_1 p102 q102);(cases e102);(replace p102:=eq_true p102);(replace q102:=eq_true q102);go_wp2;(repeat(go_quiet(fail);try go_wp2));(go_roundg k1);(case measure=>have:=HK1.out;omega);(case rel=>exact⟨(wrap64 (x13_1+1)),Yk,H',⟨by have:=HK1.out;omega⟩,by repeat(first|exact Drawn0.refl _|apply Drawn0.step)⟩));(· (obtain⟨c8b0,c8b1⟩:=Yw c8);(obtain rfl:=Option.some.inj H);(have p101:0≤(x13_1:Int):=Ym);(have q101:x13_1<(l0.length:Int):=Ym);(obtain⟨ad101,e101,hx101_0⟩:=Kd.at_int HR0.out x13_1 p101 q101);(cases e101);(replace p101:=eq_true p101);(replace q101:=eq_true q101);(have p102:0≤(x13_1:Int):=Ym);(have q102:x13_1<(l1.length:Int):=Ym);(obtain⟨ad102,e102,hx102_0⟩:=Kd.at_int HR1.out x13_1 p102 q102);(cases e102);(replace p102:=eq_true p102);(replace q102:=eq_true q102);go_wp2;(repeat(go_quiet(fail);try go_wp2));go_ret;(exact⟨by first|rfl|(simp;done)|(simp[*];done),by repeat(first|exact Drawn0.refl _|apply Drawn0.step)⟩)));(· (have c4b0:=decide_eq_false c4);clear c4;(obtain rfl:=Option.some.inj H);go_wp2;(repeat(go_quiet(fail);try go_wp2));go_ret;(exact⟨by first|rfl|(simp;done)|(simp[*];done),by repeat(first|exact Drawn0.refl _|apply Drawn0.step)⟩))
  · obtain⟨c3b0,c3b1⟩:=Yw c3
    (have c3b2:(l0.length==l1.length)=false:=by first|simpa using c3|(simp at c3 ⊢;omega));(obtain rfl:=Option.some.inj H);(go_enter Tryd.func190,Tryd.ntmps190);go_wp2;(repeat(go_quiet(fail);try go_wp2));go_ret;(exact⟨by first|rfl|(simp;done)|(simp[*];done),by repeat(first|exact Drawn0.refl _|apply Drawn0.step)⟩)
def laws_big.f (l0:List Int):Option (Bool):=some (decide ((l0.length:Int)>4096))
set_option maxHeartbeats 8000000 in
set_option maxRecDepth 100000 in
theorem laws_big.calls (A0:Option Addr) (c0:Nat) (l0:List Int) (r:Bool) (w:World) (hr0:Kd.C (Kd.int .u8) w A0 l0.length l0) (hc0:l0.length≤c0) (h:laws_big.f l0=some r) :
    Calls Tryd.prog 7 #[.slice A0 l0.length c0] w fun e w'=>e=.returned (.bool r)∧Drawn0 w w':=by
  (have HR0:=Aside0.mk hr0);(have HC0:=Aside0.mk hc0);clear hr0 hc0;(have H:(some (decide ((l0.length:Int)>4096)))=some r:=h);clear h;(obtain rfl:=Option.some.inj H);(go_enter Tryd.func7,Tryd.ntmps7);go_wp2;go_ret;(exact⟨by first|rfl|(simp;done)|(simp[*];done),by repeat(first|exact Drawn0.refl _|apply Drawn0.step)⟩)
def laws_likeInts.l0:Nat→List Int→List Int→Int→Option (Bool)
  |0,_,_,_=>none
  |k+1,x0,x1,x5=>if x5<(x0.length:Int)then(if 0≤x5 then(if x5<(x1.length:Int)then(if(rd x0 x5)=(rd x1 x5)then(laws_likeInts.l0 k x0 x1 (wrap64 (x5+1)))else(some false))else(none))else(none))else(some true)
def laws_likeInts.f (k:Nat) (l0:List Int) (l1:List Int):Option (Bool):=if(l0.length:Int)=(l1.length:Int)then(laws_likeInts.l0 k l0 l1 0)else(some false)
set_option maxHeartbeats 8000000 in
set_option maxRecDepth 100000 in
theorem laws_likeInts.calls (k:Nat) (A0:Option Addr) (c0:Nat) (l0:List Int) (A1:Option Addr) (c1:Nat) (l1:List Int) (r:Bool) (w:World) (hr0:Kd.C (Kd.int .i64) w A0 l0.length l0) (hc0:l0.length≤c0) (hr1:Kd.C (Kd.int .i64) w A1 l1.length l1) (hc1:l1.length≤c1) (h:laws_likeInts.f k l0 l1=some r) :
    Calls Tryd.prog 11 #[.slice A0 l0.length c0,.slice A1 l1.length c1] w fun e w'=>e=.returned (.bool r)∧Drawn0 w w':=by
  (have HR0:=Aside0.mk hr0);(have HC0:=Aside0.mk hc0);clear hr0 hc0;(have HR1:=Aside0.mk hr1);(have HC1:=Aside0.mk hc1);clear hr1 hc1;(have H:(if(l0.length:Int)=(l1.length:Int)then(laws_likeInts.l0 k l0 l1 0)else(some false))=some r:=h);clear h;(replace H:=Yp H);(obtain⟨c3,H⟩|⟨c3,H⟩:=H)
  · obtain⟨c3b0,c3b1⟩:=Yv c3
    (have c3b2:(l0.length==l1.length)=true:=by first|simpa using c3|(simp at c3 ⊢;omega));clear c3;(have H':=Aside0.mk H);clear H;(go_enter Tryd.func11,Tryd.ntmps11);go_wp2;(repeat(go_quiet(fail);try go_wp2));(go_loopg[5] k (fun kq v5 w'=>∃(x5_1:Int),v5=.int .i64 x5_1∧Aside0 (laws_likeInts.l0 kq l0 l1 x5_1=some r)∧Aside0 (kq≤k)∧Drawn0 w w'));(case atStart=>exact⟨(0),Yk,H',⟨Nat.le_refl _⟩,by repeat(first|exact Drawn0.refl _|apply Drawn0.step)⟩)
    case round=>
      (clear H');(try clear c3b0);(try clear c3b1);(try clear c3b2);(obtain⟨x5_1,rfl,HA,HK1,⟨m1,rfl⟩⟩:=hrel)
      cases gk with
      |zero=>exact absurd HA.out (by simp[laws_likeInts.l0])
      |succ k1=>
        (have H:=HA.out);clear HA;(simp only[laws_likeInts.l0]at H);(replace H:=Yp H);(obtain⟨c4,H⟩|⟨c4,H⟩:=H);(· (have c4b0:=decide_eq_true c4);clear c4;(replace H:=Dn2 H);(obtain⟨c5b0,c6b0,H⟩:=H);(replace H:=Yp H);(obtain⟨c7,H⟩|⟨c7,H⟩:=H);(· (obtain⟨c7b0,c7b1⟩:=Yv c7);clear c7;(have H':=Aside0.mk H);clear H;(have p103:0≤(x5_1:Int):=Ym);(have q103:x5_1<(l0.length:Int):=Ym);(obtain⟨ad103,e103,hx103_0⟩:=Kd.at_int HR0.out x5_1 p103 q103);(cases e103);(replace p103:=eq_true p103);(replace q103:=eq_true q103);(have p104:0≤(x5_1:Int):=Ym);(have q104:x5_1<(l1.length:Int):=Ym);(obtain⟨ad104,e104,hx104_0⟩:=Kd.at_int HR1.out x5_1 p104 q104);(cases e104);(replace p104:=eq_true p104);(replace q104:=eq_true q104);go_wp2;(repeat(go_quiet(fail);try go_wp2));(go_roundg k1);(case measure=>have:=HK1.out;omega);(case rel=>exact⟨(wrap64 (x5_1+1)),Yk,H',⟨by have:=HK1.out;omega⟩,by repeat(first|exact Drawn0.refl _|apply Drawn0.step)⟩));(· (obtain⟨c7b0,c7b1⟩:=Yw c7);(obtain rfl:=Option.some.inj H);(have p103:0≤(x5_1:Int):=Ym);(have q103:x5_1<(l0.length:Int):=Ym);(obtain⟨ad103,e103,hx103_0⟩:=Kd.at_int HR0.out x5_1 p103 q103);(cases e103);(replace p103:=eq_true p103);(replace q103:=eq_true q103);(have p104:0≤(x5_1:Int):=Ym);(have q104:x5_1<(l1.length:Int):=Ym);(obtain⟨ad104,e104,hx104_0⟩:=Kd.at_int HR1.out x5_1 p104 q104);(cases e104);(replace p104:=eq_true p104);(replace q104:=eq_true q104);go_wp2;(repeat(go_quiet(fail);try go_wp2));go_ret;(exact⟨by first|rfl|(simp;done)|(simp[*];done),by repeat(first|exact Drawn0.refl _|apply Drawn0.step)⟩)));(· (have c4b0:=decide_eq_false c4);clear c4;(obtain rfl:=Option.some.inj H);go_wp2;(repeat(go_quiet(fail);try go_wp2));go_ret;(exact⟨by first|rfl|(simp;done)|(simp[*];done),by repeat(first|exact Drawn0.refl _|apply Drawn0.step)⟩))
  · obtain⟨c3b0,c3b1⟩:=Yw c3
    (have c3b2:(l0.length==l1.length)=false:=by first|simpa using c3|(simp at c3 ⊢;omega));(obtain rfl:=Option.some.inj H);(go_enter Tryd.func11,Tryd.ntmps11);go_wp2;(repeat(go_quiet(fail);try go_wp2));go_ret;(exact⟨by first|rfl|(simp;done)|(simp[*];done),by repeat(first|exact Drawn0.refl _|apply Drawn0.step)⟩)
def laws_digraph9.f (k:Nat) (a0_0:Int) (l0_1:List Int) (a1_0:Int) (l1_1:List Int):Option (Bool):=if a0_0=a1_0 then((laws_likeInts.f k l0_1 l1_1).bind fun t107=>(some t107))else(some false)
set_option maxHeartbeats 8000000 in
set_option maxRecDepth 100000 in
theorem laws_digraph9.calls (k:Nat) (a0_0:Int) (A0_1:Option Addr) (c0_1:Nat) (l0_1:List Int) (a1_0:Int) (A1_1:Option Addr) (c1_1:Nat) (l1_1:List Int) (r:Bool) (w:World) (hr0_1:Kd.C (Kd.int .i64) w A0_1 l0_1.length l0_1) (hc0_1:l0_1.length≤c0_1) (hr1_1:Kd.C (Kd.int .i64) w A1_1 l1_1.length l1_1) (hc1_1:l1_1.length≤c1_1) (h:laws_digraph9.f k a0_0 l0_1 a1_0 l1_1=some r) :
    Calls Tryd.prog 27 #[.agg #[.int .i64 a0_0,.slice A0_1 l0_1.length c0_1],.agg #[.int .i64 a1_0,.slice A1_1 l1_1.length c1_1]] w fun e w'=>e=.returned (.bool r)∧Below w.heap.size w w':=by
  (have hu43:=Tryd.underlying43);(have HR0_1:=Aside0.mk hr0_1);(have HC0_1:=Aside0.mk hc0_1);clear hr0_1 hc0_1;(have HR1_1:=Aside0.mk hr1_1);(have HC1_1:=Aside0.mk hc1_1);clear hr1_1 hc1_1;(have HB:=Aside0.mk (Below.refl w.heap.size w));(have H:(if a0_0=a1_0 then((laws_likeInts.f k l0_1 l1_1).bind fun t107=>(some t107))else(some false))=some r:=h);clear h;(replace H:=Yp H);(obtain⟨c3,H⟩|⟨c3,H⟩:=H);(· (obtain⟨c3b0,c3b1⟩:=Yv c3);clear c3;(replace H:=Yq H);(obtain⟨t107,A4,H⟩:=H);(obtain rfl:=Option.some.inj H);(go_enter Tryd.func27,Tryd.ntmps27);(go_wp2_with(first|(refine Y4 2 #[.int .i64 a0_0,.slice A0_1 l0_1.length c0_1] 43 ?_;intro gb105 hg w5 hbox hb;have BK105:=Aside0.mk (hbox);have GW105:=Yge HB hg;have GE105:=Yge HB hg;replace HB:=Aside0.mk (below_step (Ya) hb);clear hb hbox hg)|(refine Y4 3 #[.int .i64 a1_0,.slice A1_1 l1_1.length c1_1] 43 ?_;intro gb106 hg w6 hbox hb;have BK106:=Aside0.mk (hbox);have GW106:=Yge HB hg;have GE106:=Yge HB hg;replace HB:=Aside0.mk (below_step (Ya) hb);have NB105_106:=Aside0.mk ((by rw[hg];exact Nat.ne_of_lt (blk_lt (Ye BK105)):gb105≠gb106));have NB106_105:=Aside0.mk ((by rw[hg];exact Nat.ne_of_gt (blk_lt (Ye BK105)):gb106≠gb105));replace BK105:=Aside0.mk (blk_below (Ye BK105) hb);clear hb hbox hg;have hnb7:=NB105_106.out;have hnc7:=NB106_105.out;obtain⟨hcz8_0,hcz8_1,hfz8_0,hfz8_1⟩:=Y2 BK105;obtain⟨hcz9_0,hcz9_1,hfz9_0,hfz9_1⟩:=Y2 BK106)|(go_at_call 11;(with_reducible refine(laws_likeInts.calls k _ _ l0_1 _ _ l1_1 t107 _ ?side1 ?side2 ?side3 ?side4 A4.out).mono ?_);(case side1=>exact Yg (Kd.C_below HR0_1.out HB.out));(case side2=>exact HC0_1.out);(case side3=>exact Yg (Kd.C_below HR1_1.out HB.out));(case side4=>exact HC1_1.out);rintro e w' ⟨rfl,⟨nd,rfl⟩⟩)));go_ret;(exact⟨Yl,Ya⟩))
  · obtain⟨c3b0,c3b1⟩:=Yw c3
    (obtain rfl:=Option.some.inj H);(go_enter Tryd.func27,Tryd.ntmps27);(go_wp2_with(first|(refine Y4 2 #[.int .i64 a0_0,.slice A0_1 l0_1.length c0_1] 43 ?_;intro gb105 hg w10 hbox hb;have BK105:=Aside0.mk (hbox);have GW105:=Yge HB hg;have GE105:=Yge HB hg;replace HB:=Aside0.mk (below_step (Ya) hb);clear hb hbox hg)|(refine Y4 3 #[.int .i64 a1_0,.slice A1_1 l1_1.length c1_1] 43 ?_;intro gb106 hg w11 hbox hb;have BK106:=Aside0.mk (hbox);have GW106:=Yge HB hg;have GE106:=Yge HB hg;replace HB:=Aside0.mk (below_step (Ya) hb);have NB105_106:=Aside0.mk ((by rw[hg];exact Nat.ne_of_lt (blk_lt (Ye BK105)):gb105≠gb106));have NB106_105:=Aside0.mk ((by rw[hg];exact Nat.ne_of_gt (blk_lt (Ye BK105)):gb106≠gb105));replace BK105:=Aside0.mk (blk_below (Ye BK105) hb);clear hb hbox hg;have hnb12:=NB105_106.out;have hnc12:=NB106_105.out;obtain⟨hcz13_0,hcz13_1,hfz13_0,hfz13_1⟩:=Y2 BK105;obtain⟨hcz14_0,hcz14_1,hfz14_0,hfz14_1⟩:=Y2 BK106)));go_ret;(exact⟨Yl,Ya⟩)
theorem impl_IsDigraph.lit (n:Int) (n1:1≤n) (n2:n≤62) (p:Int) (hp:wrap64 (2 ^ n.toNat)=p) (B:Nat) (row:Int) (W:World) (hc:W.cell? ⟨B,0,none⟩=some (.int .i64 n)) :
    Calls Tryd.prog 107 #[.int .i64 row,.pointer (some ⟨B,0,none⟩)] W fun e w'=>e=.returned (.bool (decide (row<0)||decide (p≤row)))∧w'=W:=by
  have n0:0≤n:=by omega
  have n3:n≤64:=by omega
  by_cases h:row<0
  · have h0:decide (row<0)=true:=decide_eq_true h
    clear h
    go_enter Tryd.func107,Tryd.ntmps107
    go_wp2
    go_ret
    exact⟨by simp[h0],rfl⟩
  · have h0:decide (row<0)=false:=decide_eq_false h
    clear h
    go_enter Tryd.func107,Tryd.ntmps107
    go_wp2
    go_ret
    exact⟨by simp[h0],rfl⟩
set_option maxHeartbeats 2000000 in
theorem impl_IsDigraph.idx (q:Int→Bool) (g:Nat) (lb:Array Value) (eg:∀args w,(callFunc g args).run Tryd.prog w=.ok (.enter g args) w) (A0:Option Addr) (c0:Nat) (l0:List Int) (w:World)
    (hq:∀(W:World) (x:Int),Below w.heap.size w W→Calls Tryd.prog g (#[.int .i64 x]++lb) W fun e w'=>e=.returned (.bool (q x))∧Below w.heap.size w w')
    (hr0:Kd.C (Kd.int .i64) w A0 l0.length l0) (hc0:l0.length≤c0) :
    Calls Tryd.prog 170 #[.slice A0 l0.length c0,.func (.func g) #[] lb] w fun e w'=>Aside0 (∃i:Int,e=.returned (.int .i64 i)∧(0≤i↔∃x ∈ l0,q x=true))∧Below w.heap.size w w':=by
  have hbig:=Kd.C_max hr0
  have HR:=Aside0.mk hr0
  have HQ:=Aside0.mk hq
  clear hr0 hq
  go_enter Tryd.func170,Tryd.ntmps170
  go_wp2
  go_loopg[5,8] l0.length (fun gg _ s8 wr=>∃kk:Nat,kk≤l0.length∧l0.length-kk≤gg∧s8=.int .i64 kk∧Aside0 (Below w.heap.size w wr)∧Aside0 (∀x ∈ l0.take kk,q x=false))
  case atStart=>exact⟨0,Nat.zero_le _,by omega,rfl,⟨Below.refl _ w⟩,⟨by simp⟩⟩
  case round=>
    obtain⟨kk,hkk,hg,rfl,BW,A⟩:=hrel
    by_cases hlt:kk<l0.length
    · have hltz:(kk:Int)<(l0.length:Int):=by omega
      obtain⟨ad,ea,hcell⟩:=Kd.at_int HR.out kk (by omega) (by omega)
      cases ea
      rw[Int.toNat_natCast]at hcell
      replace hcell:=(BW.out.cell (World.block_lt_of_cell? w _ hcell)).trans hcell
      have hcall:=HQ.out wr (rd l0 kk) BW.out
      have hrd:rd l0 kk=l0[kk]:=by simp[rd,List.getD_eq_getElem?_getD,List.getElem?_eq_getElem hlt]
      have HRD:=Aside0.mk hrd
      clear hrd
      generalize rd l0 kk=y at *
      have hts:l0.take (kk+1)=l0.take kk++[y]:=by rw[HRD.out,List.take_succ_eq_append_getElem hlt]
      have HTS:=Aside0.mk hts
      clear hts
      cases hqy:q y with
      |true=>
        rw[hqy]at hcall
        have HQY:=Aside0.mk hqy
        clear hqy
        go_wp2_with(go_at_fn g;refine hcall.mono ?_;rintro e w' ⟨rfl,hb'⟩)
        go_ret
        exact⟨⟨kk,rfl,⟨fun _=>⟨y,by rw[HRD.out];exact List.getElem_mem _,HQY.out⟩,fun _=>by omega⟩⟩,hb'⟩
      |false=>
        rw[hqy]at hcall
        have HQY:=Aside0.mk hqy
        clear hqy
        go_wp2_with(go_at_fn g;refine hcall.mono ?_;rintro e w' ⟨rfl,hb'⟩)
        go_roundg(l0.length-(kk+1))
        case measure=>omega
        case rel=>
          refine⟨kk+1,by omega,by omega,by go_num,⟨hb'⟩,⟨?_⟩⟩
          rw[HTS.out]
          intro x hx
          rcases List.mem_append.1 hx with h|h
          · exact A.out x h
          · rw[List.mem_singleton.1 h];exact HQY.out
    · have hltz:¬(kk:Int)<(l0.length:Int):=by omega
      have hkl:kk=l0.length:=by omega
      have HKL:=Aside0.mk hkl
      clear hkl
      go_wp2
      go_ret
      refine⟨⟨-1,rfl,⟨fun h=>by omega,fun⟨x,hx,e⟩=>?_⟩⟩,BW.out⟩
      have:=A.out x (by rw[HKL.out,List.take_of_length_le (Nat.le_refl _)];exact hx)
      rw[e]at this
      cases this
set_option maxHeartbeats 2000000 in
theorem impl_IsDigraph.has (q:Int→Bool) (g:Nat) (lb:Array Value) (eg:∀args w,(callFunc g args).run Tryd.prog w=.ok (.enter g args) w) (A0:Option Addr) (c0:Nat) (l0:List Int) (w:World)
    (hq:∀(W:World) (x:Int),Below w.heap.size w W→Calls Tryd.prog g (#[.int .i64 x]++lb) W fun e w'=>e=.returned (.bool (q x))∧Below w.heap.size w w')
    (hr0:Kd.C (Kd.int .i64) w A0 l0.length l0) (hc0:l0.length≤c0) :
    Calls Tryd.prog 106 #[.slice A0 l0.length c0,.func (.func g) #[] lb] w fun e w'=>e=.returned (.bool (l0.any q))∧Below w.heap.size w w':=by
  go_enter Tryd.func106,Tryd.ntmps106
  go_wp2_with(go_at_call 170;refine(impl_IsDigraph.idx q g lb eg A0 c0 l0 _ hq hr0 hc0).mono ?_;rintro e w' ⟨⟨i,rfl,hi⟩,hb'⟩;have HI:=Aside0.mk hi;clear hi)
  go_ret
  refine⟨?_,hb'⟩
  have:decide (0≤i)=l0.any q:=by
    rw[Bool.eq_iff_iff,decide_eq_true_iff,HI.out]
    simp
  rw[← this]
  rfl
def impl_IsDigraph.f (a0_0:Int) (l0_1:List Int):Option (Bool):=if a0_0<1 then(some false)else(if a0_0>62 then(some false)else(if(l0_1.length:Int)=a0_0 then(some (!(l0_1.any fun row=>decide (row<0)||decide (wrap64 (2 ^ a0_0.toNat)≤row))))else(some false)))
set_option maxHeartbeats 8000000 in
set_option maxRecDepth 100000 in
theorem impl_IsDigraph.calls (a0_0:Int) (A0_1:Option Addr) (c0_1:Nat) (l0_1:List Int) (r:Bool) (w:World) (hr0_1:Kd.C (Kd.int .i64) w A0_1 l0_1.length l0_1) (hc0_1:l0_1.length≤c0_1) (h:impl_IsDigraph.f a0_0 l0_1=some r) :
    Calls Tryd.prog 28 #[.agg #[.int .i64 a0_0,.slice A0_1 l0_1.length c0_1]] w fun e w'=>e=.returned (.bool r)∧Below w.heap.size w w':=by
  have hlen:=Kd.C_max hr0_1
  have HR:=Aside0.mk hr0_1
  have HC:=Aside0.mk hc0_1
  clear hr0_1 hc0_1
  have bx:Below w.heap.size w ((w.alloc (.cells #[.int .i64 a0_0,.slice A0_1 l0_1.length c0_1] 43)).alloc (.cells #[.int .i64 a0_0] 2)):=((Below.refl _ _).alloc (Nat.le_refl _) _).alloc (by simp) _
  have BX:=Aside0.mk bx
  clear bx
  unfold impl_IsDigraph.f at h
  by_cases c1:a0_0<1
  · rw[if_pos c1]at h
    obtain rfl:=Option.some.inj h
    clear h
    have k1:decide (a0_0<1)=true:=decide_eq_true c1
    clear c1
    go_enter Tryd.func28,Tryd.ntmps28
    go_wp2
    go_ret
    exact⟨rfl,BX.out⟩
  · rw[if_neg c1]at h
    have k1:decide (a0_0<1)=false:=decide_eq_false c1
    by_cases c2:a0_0>62
    · rw[if_pos c2]at h
      obtain rfl:=Option.some.inj h
      clear h
      have k2:decide (62<a0_0)=true:=decide_eq_true c2
      clear c1 c2
      go_enter Tryd.func28,Tryd.ntmps28
      go_wp2
      go_ret
      exact⟨rfl,BX.out⟩
    · rw[if_neg c2]at h
      have k2:decide (62<a0_0)=false:=decide_eq_false c2
      by_cases c3:(l0_1.length:Int)=a0_0
      · rw[if_pos c3]at h
        obtain rfl:=Option.some.inj h
        clear h
        have k3:((l0_1.length:Int)!=a0_0)=false:=by simp[c3]
        have n1:1≤a0_0:=by omega
        have n2:a0_0≤62:=by omega
        clear c1 c2 c3
        have HK:=fun W hq=>impl_IsDigraph.has (fun row=>decide (row<0)||decide (wrap64 (2 ^ a0_0.toNat)≤row)) 107 #[.pointer (some ⟨w.heap.size+1,0,none⟩)] (enters_of Tryd.func107 (by kernel_rfl) rfl) A0_1 c0_1 l0_1 W hq
        go_enter Tryd.func28,Tryd.ntmps28
        go_wp2_with fail
        refine(HK _ ?hq ?hr HC.out).mono ?_
        case hq=>
          intro W x hb
          have hc:W.cell? ⟨w.heap.size+1,0,none⟩=some (.int .i64 a0_0):=by
            rw[hb.cell (p:=⟨w.heap.size+1,0,none⟩) (by simp)]
            simp
          exact(impl_IsDigraph.lit a0_0 n1 n2 _ rfl _ x W hc).mono fun e w' ⟨he,hw⟩=>⟨he,by rw[hw];exact hb⟩
        case hr=>exact Kd.C_below HR.out BX.out
        rintro e w' ⟨rfl,hb⟩
        go_wp2
        go_ret
        refine⟨rfl,?_⟩
        exact below_then BX.out (by simp;omega) hb
      · rw[if_neg c3]at h
        obtain rfl:=Option.some.inj h
        clear h
        have k3:((l0_1.length:Int)!=a0_0)=true:=by simp[c3]
        clear c1 c2 c3
        go_enter Tryd.func28,Tryd.ntmps28
        go_wp2
        go_ret
        exact⟨rfl,BX.out⟩
theorem bits_TrailingZeros64.key (x a:Nat) (hx:x<18446744073709551616) (hlow:x &&& (18446744073709551616-x)=a) (hx0:x≠0) :
    IntKind.u64.wrap (bits BinOp.and IntKind.u64 (x:Int) (IntKind.u64.wrap (-(x:Int)))*285870213051353865)/288230376151711744=((a*285870213051353865 % 18446744073709551616/288230376151711744:Nat):Int):=by
  have e1:IntKind.u64.wrap (-(x:Int))=((18446744073709551616-x:Nat):Int):=by rw[IntKind.wrap_u64];omega
  rw[e1,bits_and_u64_nat x _ hx (by omega),hlow,IntKind.wrap_u64]
  omega
theorem bits_TrailingZeros64.all (x:Nat) (hx:x<18446744073709551616) (hx0:x≠0) (w:World) (hT:TabW w):∃idx kk:Int,0≤idx∧idx<64∧IntKind.u64.wrap (bits BinOp.and IntKind.u64 (x:Int) (IntKind.u64.wrap (-(x:Int)))*285870213051353865)/288230376151711744=idx∧w.cell? ⟨0,idx.toNat,none⟩=some (.int .u8 kk)∧((Lib.ctz 64 x:Nat):Int)=kk∧0≤kk∧kk<64:=by
  obtain⟨hlow,hk⟩:=Lib.lowest_bit 64 x hx0 hx
  obtain⟨hi,htab⟩:=Lib.deBruijn64_at _ hk
  have hcell:=hT _ hi
  rw[htab]at hcell
  have key:=bits_TrailingZeros64.key x _ hx hlow hx0
  generalize Lib.ctz 64 x=k at *
  generalize 2 ^ k*285870213051353865 % 18446744073709551616/288230376151711744=idx at *
  exact⟨idx,k,by omega,by omega,key,by rw[Int.toNat_natCast];exact hcell,rfl,by omega,by omega⟩
def bits_TrailingZeros64.f (a0:Int):Option (Int):=if 0≤a0 then if a0<18446744073709551616 then some ((Lib.ctz 64 a0.toNat:Nat):Int)else none else none
set_option maxHeartbeats 8000000 in
set_option maxRecDepth 100000 in
theorem bits_TrailingZeros64.calls (a0:Int) (r:Int) (w:World) (hT:TabW w) (h:bits_TrailingZeros64.f a0=some r) :
    Calls Tryd.prog 166 #[.int .u64 a0] w fun e w'=>e=.returned (.int .i64 r)∧Drawn0 w w':=by
  unfold bits_TrailingZeros64.f at h
  split at h
  case isFalse=>cases h
  case isTrue h0=>
  split at h
  case isFalse=>cases h
  case isTrue h1=>
  obtain rfl:=Option.some.inj h
  clear h
  by_cases hx0:a0=0
  · subst hx0
    go_enter Tryd.func166,Tryd.ntmps166
    go_wp2
    go_ret
    exact⟨rfl,Drawn0.refl _⟩
  · have ha:=bits_TrailingZeros64.all a0.toNat (by omega) (by omega) w hT
    rw[Int.toNat_of_nonneg h0]at ha
    obtain⟨idx,kk,i0,i1,key,hcell,e,k0,k1⟩:=ha
    rw[e]
    have hx1:(a0==0)=false:=by simpa using hx0
    have kw:IntKind.i64.wrap kk=kk:=by rw[IntKind.wrap_i64];omega
    have KEY:=Aside0.mk key
    have p0:=eq_true i0
    have p1:=eq_true i1
    clear key hT hx0 e h0 h1 i0 i1 k0 k1
    go_enter Tryd.func166,Tryd.ntmps166
    go_wp2_with(simp only[KEY.out])
    go_ret
    exact⟨rfl,Drawn0.refl _⟩
def impl_list.l0:Nat→Int→List Int→Option (List Int)
  |0,_,_=>none
  |k+1,x0,x3=>if x0=0 then(some x3)else((bits_TrailingZeros64.f (IntKind.u64.wrap (x0))).bind fun t111=>(if x3.length<17592186044416 then(impl_list.l0 k (Go.bits .and .i64 x0 (wrap64 (x0-1))) (x3++[t111]))else(none)))
def impl_list.f (k:Nat) (a0:Int):Option (List Int):=impl_list.l0 k a0 (([]:List Int))
set_option maxHeartbeats 8000000 in
set_option maxRecDepth 100000 in
theorem impl_list.calls (k:Nat) (a0:Int) (r:List Int) (w:World) (hT:TabW w) (h:impl_list.f k a0=some r) :
    Calls Tryd.prog 99 #[.int .i64 a0] w fun e w'=>∃v0_:Value,e=.returned (v0_)∧Kd.R (Kd.int .i64) 2 w' w.heap.size (fun _=>True) v0_ r∧Below w.heap.size w w':=by
  (have HT:=Aside0.mk hT);clear hT;(have HB:=Aside0.mk (Below.refl w.heap.size w));(have H:(impl_list.l0 k a0 (([]:List Int)))=some r:=h);clear h;(obtain⟨y108,hy108⟩:∃y_:List Int,y_=(([]:List Int)):=⟨_,rfl⟩);(replace H:(impl_list.l0 k a0 y108)=some r:=by first|(rw[hy108];with_reducible exact H)|(have H2_:=(Option.bind_some _ _).symm.trans H;rw[hy108];with_reducible exact H2_)|(have H2_:=(Option.bind_some _ _).symm.trans H;with_reducible exact H2_)|with_reducible exact H|(rw[hy108];exact H)|exact H);(have Ny108:=Aside0.mk hy108);clear hy108;(have H':=Aside0.mk H);clear H;(go_enter Tryd.func99,Tryd.ntmps99);(go_wp2_with(first|((with_reducible refine gate_dst (N:=4) rfl ?_);refine Kd.R_lit (Kd.int .i64) _ 2 ?hg (N:=4) ?hd (xs:=([]:List Int)) (inner:=[]) (ok:=fun _=>True) (okp:=fun _=>True) ?hr ?hp (fun _ hk=>hk) trivial (Below.refl _ _) (Nat.le_refl _) (by simp) ?_;(case hd=>rfl);(case hg=>rfl);(case hr=>first|(go_simp;done)|(go_simp;rfl));(case hp=>exact(Reps.none _ _));intro v109 w2 ho3 hb hg_ hnew_;clear hg_ hnew_;(first|rw[← Ny108.out]at ho3|(simp only[Int.reduceToNat]at ho3;rw[← Ny108.out]at ho3));have HO110:=Aside0.mk (Kd.R_lower ho3 (below_size (Ya)));replace HB:=Aside0.mk (below_step (Ya) hb);clear hb ho3)));(go_loopg[0,3] k (fun kq v0 v3 w'=>∃(x0_1:Int) (x3_1:List Int),v0=.int .i64 x0_1∧Aside0 (impl_list.l0 kq x0_1 x3_1=some r)∧Aside0 (kq≤k)∧Aside0 (Kd.R (Kd.int .i64) 2 w' w.heap.size (fun _=>True) v3 x3_1)∧Aside0 (Below w.heap.size w w')));(case atStart=>exact⟨(a0),(y108),Yk,H',⟨Nat.le_refl _⟩,⟨YcR HO110⟩,⟨Ya⟩⟩)
  case round=>
    (clear H');(obtain⟨x0_1,x3_1,rfl,HA,HK1,HO_3,HB⟩:=hrel)
    cases gk with
    |zero=>exact absurd HA.out (by simp[impl_list.l0])
    |succ k1=>
      (have H:=HA.out);clear HA;(simp only[impl_list.l0]at H);(replace H:=Yp H);(obtain⟨c4,H⟩|⟨c4,H⟩:=H);(· (obtain⟨c4b0,c4b1⟩:=Yv c4);clear c4;(obtain rfl:=Option.some.inj H);go_wp2;go_ret;(exact⟨_,Yl,YcR HO_3,Ya⟩))
      · obtain⟨c4b0,c4b1⟩:=Yw c4
        (replace H:=Yq H);(obtain⟨t111,A5,H⟩:=H);(replace H:=Ln H);(obtain⟨LMc6,H⟩:=H);(obtain⟨y112,Ny112⟩:=Ys (x3_1++[t111]:List Int));(rw[← Ny112.out]at H);(have H':=Aside0.mk H);clear H;(go_wp2_with(first|(refine Y5 166 (some 14) Tryd.func166 #[.int .u64 (IntKind.u64.wrap (x0_1))] ?_;(with_reducible refine(bits_TrailingZeros64.calls (IntKind.u64.wrap (x0_1)) t111 _ ?side1 A5.out).mono ?_);(case side1=>exact TabW.below HT.out (Ya));rintro e w' ⟨rfl,⟨nd,rfl⟩⟩;refine⟨_,rfl,?_⟩)|((with_reducible refine gate_builtin (b:=.append) (xs:=#[.tmp 11,.tmp 15]) rfl ?_);at_builtin;refine Kd.R_append (Kd.int .i64) (w0:=w) w.heap.size rfl (.tmp 11) (.tmp 15) 24 2 (.int .i64 0) 8 rfl Tryd.underlying24 info2 rfl (by decide) (by omega) u3 x3_1 t111 [.int .i64 t111] (fun _=>True) (fun _=>False) rfl rfl ?aP (fun _ hk=>hk.elim) ?aF ?aO ?aB ?aS ?aL ?_;(case aP=>exact rfl);(case aB=>exact(Ya));(case aF=>exact(fun _ _=>trivial));(case aO=>exact(YcR HO_3));(case aS=>exact(below_size (Ya)));(case aL=>have:=LMc6.out;omega);intro v113 w7 ho hb hg hat;rw[← Ny112.out]at ho;have n0_:=Aside0.mk (hb);have n1_:=Aside0.mk (ho);clear HB;clear HO_3;have HB:=n0_;have HO114:=n1_;clear n0_ n1_;clear ho hb hg hat)));(go_roundg k1);(case measure=>have:=HK1.out;omega);(case rel=>exact⟨(Go.bits .and .i64 x0_1 (wrap64 (x0_1-1))),(y112),Yk,H',⟨by have:=HK1.out;omega⟩,⟨YcR HO114⟩,⟨Ya⟩⟩)
mutual
def impl_Digraph_arcs.l0:Nat→List (List Int)→List Int→Int→Int→Option ((List (List Int)))
  |0,_,_,_,_=>none
  |k+1,x3,x10,x11,x12=>if x12<x11 then(if 0≤x12 then(if x12<(x10.length:Int)then((impl_list.f k (rd x10 x12)).bind fun t120=>(impl_Digraph_arcs.l1 k x3 x12 x10 x11 x12 t120 (t120.length:Int) 0))else(none))else(none))else(some x3)
def impl_Digraph_arcs.l1:Nat→List (List Int)→Int→List Int→Int→Int→List Int→Int→Int→Option ((List (List Int)))
  |0,_,_,_,_,_,_,_,_=>none
  |k+1,x3,x4,x10,x11,x12,x18,x19,x20=>if x20<x19 then(if 0≤x20 then(if x20<(x18.length:Int)then(if x3.length<5864062014805 then(impl_Digraph_arcs.l1 k (x3++[(([x4,rd x18 x20]:List Int))]) x4 x10 x11 x12 x18 x19 (wrap64 (x20+1)))else(none))else(none))else(none))else(impl_Digraph_arcs.l0 k x3 x10 x11 (wrap64 (x12+1)))
end
def impl_Digraph_arcs.f (k:Nat) (a0_0:Int) (l0_1:List Int):Option ((List (List Int))):=impl_Digraph_arcs.l0 k (([]:List (List Int))) l0_1 (l0_1.length:Int) 0
set_option maxHeartbeats 8000000 in
set_option maxRecDepth 100000 in
theorem impl_Digraph_arcs.calls (k:Nat) (a0_0:Int) (A0_1:Option Addr) (c0_1:Nat) (l0_1:List Int) (r:List (List Int)) (w:World) (hr0_1:Kd.C (Kd.int .i64) w A0_1 l0_1.length l0_1) (hc0_1:l0_1.length≤c0_1) (hT:TabW w) (h:impl_Digraph_arcs.f k a0_0 l0_1=some r) :
    Calls Tryd.prog 108 #[.agg #[.int .i64 a0_0,.slice A0_1 l0_1.length c0_1]] w fun e w'=>∃v0_:Value,e=.returned (v0_)∧Kd.S (Kd.slice 2 (Kd.int .i64)) 24 w' w.heap.size (fun _=>True) v0_ r∧Below w.heap.size w w':=by
  (have hu43:=Tryd.underlying43);(have HT:=Aside0.mk hT);clear hT;(have HR0_1:=Aside0.mk hr0_1);(have HC0_1:=Aside0.mk hc0_1);clear hr0_1 hc0_1;(have HB:=Aside0.mk (Below.refl w.heap.size w));(have H:(impl_Digraph_arcs.l0 k (([]:List (List Int))) l0_1 (l0_1.length:Int) 0)=some r:=h);clear h;(obtain⟨y116,hy116⟩:∃y_:List (List Int),y_=(([]:List (List Int))):=⟨_,rfl⟩);(replace H:(impl_Digraph_arcs.l0 k y116 l0_1 (l0_1.length:Int) 0)=some r:=by first|(rw[hy116];with_reducible exact H)|(have H2_:=(Option.bind_some _ _).symm.trans H;rw[hy116];with_reducible exact H2_)|(have H2_:=(Option.bind_some _ _).symm.trans H;with_reducible exact H2_)|with_reducible exact H|(rw[hy116];exact H)|exact H);(have Ny116:=Aside0.mk hy116);clear hy116;(have H':=Aside0.mk H);clear H;(go_enter Tryd.func108,Tryd.ntmps108);(go_wp2_with(first|(refine Y4 1 #[.int .i64 a0_0,.slice A0_1 l0_1.length c0_1] 43 ?_;intro gb115 hg w2 hbox hb;have BK115:=Aside0.mk (hbox);have GW115:=Yge HB hg;have GE115:=Yge HB hg;replace HB:=Aside0.mk (below_step (Ya) hb);clear hb hbox hg)|((with_reducible refine gate_dst (N:=8) rfl ?_);refine Kd.S_lit (Kd.slice 2 (Kd.int .i64)) _ 24 ?hg (N:=8) ?hd (xs:=([]:List (List Int))) (inner:=[]) (ok:=fun _=>True) (okp:=fun _=>True) ?hr ?hp (fun _ hk=>hk) trivial (Below.refl _ _) (Nat.le_refl _) (by simp) ?_;(case hd=>rfl);(case hg=>rfl);(case hr=>first|(go_simp;done)|(go_simp;rfl));(case hp=>exact(Reps.none _ _));intro v117 w3 ho4 hb hg_ hnew_;clear hg_ hnew_;(first|rw[← Ny116.out]at ho4|(simp only[Int.reduceToNat]at ho4;rw[← Ny116.out]at ho4));have HO118:=Aside0.mk (Kd.S_lower ho4 (below_size (Ya)));replace BK115:=Aside0.mk (blk_below (Ye BK115) hb);replace HB:=Aside0.mk (below_step (Ya) hb);clear hb ho4;obtain⟨hcz5_0,hcz5_1,hfz5_0,hfz5_1⟩:=Y2 BK115)));(go_loopg[3,12] k (fun kq v3 v12 w'=>∃(x3_1:List (List Int)) (x12_1:Int),v12=.int .i64 x12_1∧Aside0 (impl_Digraph_arcs.l0 kq x3_1 l0_1 (l0_1.length:Int) x12_1=some r)∧Aside0 (kq≤k)∧Aside0 (Kd.S (Kd.slice 2 (Kd.int .i64)) 24 w' w.heap.size (fun _=>True) v3 x3_1)∧Aside0 (w'.heap[gb115]? =some (.cells #[.int .i64 a0_0,(.slice A0_1 l0_1.length c0_1)] 43 (0,0)))∧Aside0 (Below w.heap.size w w')));(case atStart=>exact⟨(y116),(0),Yk,H',⟨Nat.le_refl _⟩,⟨YcS HO118⟩,⟨Ye BK115⟩,⟨Ya⟩⟩)
  case round=>
    (clear H');(try clear hcz5_0);(try clear hcz5_1);(try clear hfz5_0);(try clear hfz5_1);(obtain⟨x3_1,x12_1,rfl,HA,HK1,HO_3,BK115,HB⟩:=hrel)
    cases gk with
    |zero=>exact absurd HA.out (by simp[impl_Digraph_arcs.l0])
    |succ k1=>
      (have H:=HA.out);clear HA;(simp only[impl_Digraph_arcs.l0]at H);(replace H:=Yp H);(obtain⟨c6,H⟩|⟨c6,H⟩:=H)
      · have c6b0:=decide_eq_true c6
        clear c6;(replace H:=Dn2 H);(obtain⟨c7b0,c8b0,H⟩:=H);(replace H:=Yq H);(obtain⟨t120,A9,H⟩:=H);(have H':=Aside0.mk H);clear H;(have p119:0≤(x12_1:Int):=Ym);(have q119:x12_1<(l0_1.length:Int):=Ym);(obtain⟨ad119,e119,hx119_0⟩:=Kd.at_int HR0_1.out x12_1 p119 q119);(cases e119);(replace hx119_0:=(HB.out.cell (World.block_lt_of_cell? _ _ hx119_0)).trans hx119_0);(replace p119:=eq_true p119);(replace q119:=eq_true q119);(go_wp2_with(first|(refine Y5 99 (some 18) Tryd.func99 #[.int .i64 (rd l0_1 x12_1)] ?_;(with_reducible refine(impl_list.calls k1 (rd l0_1 x12_1) t120 _ ?side1 A9.out).mono ?_);(case side1=>exact TabW.below HT.out (Ya));rintro e w10 ⟨v121,rfl,ho0,hb⟩;refine⟨_,rfl,?_⟩;replace HO_3:=Aside0.mk (Kd.S_elder' (YcS HO_3) (Kd.R_base ho0) hb);have HO122:=Aside0.mk (Kd.R_lower ho0 (below_size (Ya)));replace BK115:=Aside0.mk (blk_below (Ye BK115) hb);replace HB:=Aside0.mk (below_step (Ya) hb);clear hb ho0;obtain⟨Ao11,co11,eo11⟩:=Kd.R_slice HO122.out;subst eo11)));(go_loopg[3,20] k1 (fun kq v3 v20 w'=>∃(x3_2:List (List Int)) (x20_2:Int),v20=.int .i64 x20_2∧Aside0 (impl_Digraph_arcs.l1 kq x3_2 x12_1 l0_1 (l0_1.length:Int) x12_1 t120 (t120.length:Int) x20_2=some r)∧Aside0 (kq≤k1)∧Aside0 (Kd.S (Kd.slice 2 (Kd.int .i64)) 24 w' w.heap.size (fun k_=>some k_≠((.slice Ao11 t120.length co11):Value).ownBlock) v3 x3_2)∧Aside0 (Kd.R (Kd.int .i64) 2 w' w.heap.size (fun _=>True) (.slice Ao11 t120.length co11) t120)∧Aside0 (w'.heap[gb115]? =some (.cells #[.int .i64 a0_0,(.slice (some ad119) l0_1.length c0_1)] 43 (0,0)))∧Aside0 (Below w.heap.size w w')));(case atStart=>exact⟨(x3_1),(0),Yk,H',⟨Nat.le_refl _⟩,⟨YbS (Kd.S_mono HO_3.out (fun _ hk=>hk.2))⟩,⟨YcR HO122⟩,⟨Ye BK115⟩,⟨Ya⟩⟩)
        case round=>
          (clear H');(try clear c6b0);(try clear c7b0);(try clear c8b0);(try clear hcz5_0);(try clear hcz5_1);(try clear hfz5_0);(try clear hfz5_1);(try clear hx119_0);(try clear p119);(try clear q119);(obtain⟨x3_2,x20_2,rfl,HA,HK2,HO_3,HO_18,BK115,HB⟩:=hrel)
          cases gk with
          |zero=>exact absurd HA.out (by simp[impl_Digraph_arcs.l1])
          |succ k2=>
            (have H:=HA.out);clear HA;(simp only[impl_Digraph_arcs.l1]at H);(replace H:=Yp H);(obtain⟨c12,H⟩|⟨c12,H⟩:=H);(· (have c12b0:=decide_eq_true c12);clear c12;(replace H:=Dn2 H);(obtain⟨c13b0,c14b0,H⟩:=H);(obtain⟨y124,hy124⟩:∃y_:List Int,y_=(([x12_1,rd t120 x20_2]:List Int)):=⟨_,rfl⟩);(replace H:(if x3_2.length<5864062014805 then(impl_Digraph_arcs.l1 k2 (x3_2++[y124]) x12_1 l0_1 (l0_1.length:Int) x12_1 t120 (t120.length:Int) (wrap64 (x20_2+1)))else(none))=some r:=by first|(rw[hy124];with_reducible exact H)|(have H2_:=(Option.bind_some _ _).symm.trans H;rw[hy124];with_reducible exact H2_)|(have H2_:=(Option.bind_some _ _).symm.trans H;with_reducible exact H2_)|with_reducible exact H|(rw[hy124];exact H)|exact H);(have Ny124:=Aside0.mk hy124);clear hy124;(replace H:=Ln H);(obtain⟨LMc15,H⟩:=H);(obtain⟨y127,Ny127⟩:=Ys (x3_2++[y124]:List (List Int)));(rw[← Ny127.out]at H);(have H':=Aside0.mk H);clear H;(have p123:0≤(x20_2:Int):=Ym);(have q123:x20_2<(t120.length:Int):=Ym);(obtain⟨ad123,e123,hx123_0⟩:=Kd.at_int (Kd.R_reads' HO_18.out).2.2 x20_2 p123 q123);(cases e123);(replace p123:=eq_true p123);(replace q123:=eq_true q123);(go_wp2_with(first|((with_reducible refine gate_dst (N:=27) rfl ?_);refine Kd.R_lit (Kd.int .i64) _ 2 ?hg (N:=27) ?hd (xs:=([x12_1,rd t120 x20_2]:List Int)) (inner:=[.int .i64 x12_1,.int .i64 (rd t120 x20_2)]) (ok:=fun _=>True) (okp:=fun _=>True) ?hr ?hp (fun _ hk=>hk) trivial (Below.refl _ _) (Nat.le_refl _) (by simp) ?_;(case hd=>rfl);(case hg=>rfl);(case hr=>first|(go_simp;done)|(go_simp;rfl));(case hp=>exact(Reps.one (show Kd.M (Kd.int .i64) _ _ _ x12_1 [.int .i64 x12_1] from rfl) (Reps.one (show Kd.M (Kd.int .i64) _ _ _ (rd t120 x20_2) [.int .i64 (rd t120 x20_2)] from rfl) (Reps.none _ _))));intro v125 w16 ho17 hb hg_ hnew_;clear hg_ hnew_;(first|rw[← Ny124.out]at ho17|(simp only[Int.reduceToNat]at ho17;rw[← Ny124.out]at ho17));replace HO_3:=Aside0.mk (Kd.S_elder' (YcS HO_3) (Kd.R_base ho17) hb);have HO126:=Aside0.mk (Kd.R_lower (Kd.R_new' ho17 (Kd.R_lt (YcR HO_18))) (below_size (Ya)));replace HO_18:=Aside0.mk (Kd.R_elder' (YcR HO_18) (Kd.R_base ho17) hb);replace BK115:=Aside0.mk (blk_below (Ye BK115) hb);replace HB:=Aside0.mk (below_step (Ya) hb);clear hb ho17;obtain⟨Ao19,co19,eo19⟩:=Kd.R_slice HO126.out;subst eo19)|((with_reducible refine gate_builtin (b:=.append) (xs:=#[.tmp 24,.tmp 28]) rfl ?_);at_builtin;refine Kd.S_append (Kd.slice 2 (Kd.int .i64)) (w0:=w) w.heap.size rfl (.tmp 24) (.tmp 28) 49 24 (.slice none 0 0) 24 rfl Tryd.underlying49 info24 rfl (by decide) (by omega) u3 x3_2 y124 [.slice Ao19 y124.length co19] (fun k_=>some k_≠(.slice (some ad123) t120.length co11:Value).ownBlock) (fun k_=>some k_=(.slice Ao19 y124.length co19:Value).ownBlock) rfl rfl ?aP (fun k_ hk_=>((Kd.R_mono (ok':=fun k_=>((fun k_=>some k_≠(.slice (some ad123) t120.length co11:Value).ownBlock)) k_∧some k_≠(u3:Value).ownBlock) (Kd.R_apart' (HO126.out) (Kd.S_typed HO_3.out) (by decide)) (fun k_ hk=>⟨hk.1.2,hk.2⟩))).1 k_ hk_.symm) ?aF ?aO ?aB ?aS ?aL ?_;(case aP=>exact Kd.M_row (Kd.R_mono (Kd.R_tight rfl (Kd.R_mono (ok':=fun k_=>((fun k_=>some k_≠(.slice (some ad123) t120.length co11:Value).ownBlock)) k_∧some k_≠(u3:Value).ownBlock) (Kd.R_apart' (HO126.out) (Kd.S_typed HO_3.out) (by decide)) (fun k_ hk=>⟨hk.1.2,hk.2⟩))) (fun _ h_=>h_)));(case aB=>exact(Ya));(case aF=>exact(fun k_ hk=>Kd.fresh' (Kd.R_lt (YcR HO_18)) k_ hk));(case aO=>exact(YbS (Kd.S_mono HO_3.out (fun k_ hk=>⟨hk.1,fun e_=>hk.2 e_⟩))));(case aS=>exact(below_size (Ya)));(case aL=>have:=LMc15.out;omega);intro v128 w18 ho hb hg hat;rw[← Ny127.out]at ho;have n0_:=Aside0.mk (Kd.R_over' (YcR HO_18) (Kd.S_typed (YcS HO_3)) (by decide) hg);have n1_:=Aside0.mk (blk_grown (Ye BK115) hg (Kd.S_ne HO_3.out BK115.out (by decide)));have n2_:=Aside0.mk (hb);have n3_:=Aside0.mk (ho);clear HO_18;clear BK115;clear HB;clear HO_3;clear HO126;have HO_18:=n0_;have BK115:=n1_;have HB:=n2_;have HO129:=n3_;clear n0_ n1_ n2_ n3_;clear ho hb hg hat)));(go_roundg k2);(case measure=>have:=HK1.out;have:=HK2.out;omega);(case rel=>exact⟨(y127),(wrap64 (x20_2+1)),Yk,H',⟨by have:=HK1.out;have:=HK2.out;omega⟩,⟨YcS HO129⟩,⟨YbR (Kd.R_mono HO_18.out (fun _ hk=>trivial))⟩,⟨Ye BK115⟩,⟨Ya⟩⟩));(· (have c12b0:=decide_eq_false c12);clear c12;(have H':=Aside0.mk H);clear H;go_wp2;(go_roundg k2);(case measure=>have:=HK1.out;have:=HK2.out;omega);(case rel=>exact⟨(x3_2),(wrap64 (x12_1+1)),Yk,H',⟨by have:=HK1.out;have:=HK2.out;omega⟩,⟨YbS (Kd.S_mono HO_3.out (fun _ hk=>trivial))⟩,⟨Ye BK115⟩,⟨Ya⟩⟩))
      · have c6b0:=decide_eq_false c6
        clear c6;(obtain rfl:=Option.some.inj H);go_wp2;go_ret;(exact⟨_,Yl,YcS HO_3,Ya⟩)
def impl_ArcsOf.f (k:Nat) (a0_0:Int) (l0_1:List Int):Option ((List (List Int)) × Int):=(impl_IsDigraph.f a0_0 l0_1).bind fun t131=>(if t131=true then((impl_Digraph_arcs.f k a0_0 l0_1).bind fun t132=>(some (t132,0)))else(some (([]:List (List Int)),1)))
set_option maxHeartbeats 8000000 in
set_option maxRecDepth 100000 in
theorem impl_ArcsOf.calls (k:Nat) (a0_0:Int) (A0_1:Option Addr) (c0_1:Nat) (l0_1:List Int) (r1:List (List Int)) (r2:Int) (w:World) (hr0_1:Kd.C (Kd.int .i64) w A0_1 l0_1.length l0_1) (hc0_1:l0_1.length≤c0_1) (hT:TabW w) (h:impl_ArcsOf.f k a0_0 l0_1=some (r1,r2)) :
    Calls Tryd.prog 30 #[.agg #[.int .i64 a0_0,.slice A0_1 l0_1.length c0_1]] w fun e w'=>∃v0_:Value,e=.returned (.tuple #[v0_,.int .i64 r2])∧Kd.S (Kd.slice 2 (Kd.int .i64)) 24 w' w.heap.size (fun _=>True) v0_ r1∧Below w.heap.size w w':=by
  (have hu43:=Tryd.underlying43);(have HT:=Aside0.mk hT);clear hT;(have HR0_1:=Aside0.mk hr0_1);(have HC0_1:=Aside0.mk hc0_1);clear hr0_1 hc0_1;(have HB:=Aside0.mk (Below.refl w.heap.size w));(have H:((impl_IsDigraph.f a0_0 l0_1).bind fun t131=>(if t131=true then((impl_Digraph_arcs.f k a0_0 l0_1).bind fun t132=>(some (t132,0)))else(some (([]:List (List Int)),1))))=some (r1,r2):=h);clear h;(replace H:=Yq H);(obtain⟨t131,A2,H⟩:=H);(by_cases c3:t131=true);(· subst c3;(replace H:=Ybt H);(replace H:=Yq H);(obtain⟨t132,A4,H⟩:=H);(simp only[Option.some.injEq,Prod.mk.injEq]at H);(obtain⟨rfl,rfl⟩:=H);(go_enter Tryd.func30,Tryd.ntmps30);(go_wp2_with(first|(refine Y4 1 #[.int .i64 a0_0,.slice A0_1 l0_1.length c0_1] 43 ?_;intro gb130 hg w5 hbox hb;have BK130:=Aside0.mk (hbox);have GW130:=Yge HB hg;have GE130:=Yge HB hg;replace HB:=Aside0.mk (below_step (Ya) hb);clear hb hbox hg;obtain⟨hcz6_0,hcz6_1,hfz6_0,hfz6_1⟩:=Y2 BK130)|(refine Y5 28 (some 5) Tryd.func28 #[.agg #[.int .i64 a0_0,.slice A0_1 l0_1.length c0_1]] ?_;(with_reducible refine(impl_IsDigraph.calls a0_0 _ _ l0_1 true _ ?side1 ?side2 A2.out).mono ?_);(case side1=>exact Yg (Kd.C_below HR0_1.out HB.out));(case side2=>exact HC0_1.out);rintro e w7 ⟨rfl,hb⟩;refine⟨_,rfl,?_⟩;replace BK130:=Aside0.mk (blk_below (Ye BK130) hb);replace HB:=Aside0.mk (below_step (Ya) hb);clear hb;obtain⟨hcz8_0,hcz8_1,hfz8_0,hfz8_1⟩:=Y2 BK130)|(refine Y5 108 (some 8) Tryd.func108 #[.agg #[.int .i64 a0_0,.slice A0_1 l0_1.length c0_1]] ?_;(with_reducible refine(impl_Digraph_arcs.calls k a0_0 _ _ l0_1 t132 _ ?side1 ?side2 ?side3 A4.out).mono ?_);(case side1=>exact Yg (Kd.C_below HR0_1.out HB.out));(case side2=>exact HC0_1.out);(case side3=>exact TabW.below HT.out (Ya));rintro e w9 ⟨v133,rfl,ho0,hb⟩;refine⟨_,rfl,?_⟩;have HO134:=Aside0.mk (Kd.S_lower ho0 (below_size (Ya)));replace BK130:=Aside0.mk (blk_below (Ye BK130) hb);replace HB:=Aside0.mk (below_step (Ya) hb);clear hb ho0)));(go_ret2);(exact⟨_,Yl,YcS HO134,Ya⟩))
  · replace c3:=Bool.eq_false_iff.mpr c3
    subst c3;(replace H:=Ybf H);(simp only[Option.some.injEq,Prod.mk.injEq]at H);(obtain⟨rfl,rfl⟩:=H);(go_enter Tryd.func30,Tryd.ntmps30);(go_wp2_with(first|(refine Y4 1 #[.int .i64 a0_0,.slice A0_1 l0_1.length c0_1] 43 ?_;intro gb130 hg w10 hbox hb;have BK130:=Aside0.mk (hbox);have GW130:=Yge HB hg;have GE130:=Yge HB hg;replace HB:=Aside0.mk (below_step (Ya) hb);clear hb hbox hg;obtain⟨hcz11_0,hcz11_1,hfz11_0,hfz11_1⟩:=Y2 BK130)|(refine Y5 28 (some 5) Tryd.func28 #[.agg #[.int .i64 a0_0,.slice A0_1 l0_1.length c0_1]] ?_;(with_reducible refine(impl_IsDigraph.calls a0_0 _ _ l0_1 false _ ?side1 ?side2 A2.out).mono ?_);(case side1=>exact Yg (Kd.C_below HR0_1.out HB.out));(case side2=>exact HC0_1.out);rintro e w12 ⟨rfl,hb⟩;refine⟨_,rfl,?_⟩;replace BK130:=Aside0.mk (blk_below (Ye BK130) hb);replace HB:=Aside0.mk (below_step (Ya) hb);clear hb)));(go_ret2);(exact⟨_,Yl,by first|exact Kd.S_nil _ _ _ _ _|exact Kd.N_nil _ _ _ _ _|exact Kd.V_nil _ _ _ _ _|exact Kd.Q_nil _ _ _ _ _|exact Kd.R_nil _ _ _ _ _,Ya⟩)
def laws_rows9.l0:Nat→List (List Int)→List (List Int)→Int→Option (Bool)
  |0,_,_,_=>none
  |k+1,x0,x1,x5=>if x5<(x0.length:Int)then(if 0≤x5 then(if x5<(x1.length:Int)then((laws_likeInts.f k (rd_L2 x0 x5) (rd_L2 x1 x5)).bind fun t137=>(if t137=true then(laws_rows9.l0 k x0 x1 (wrap64 (x5+1)))else(some false)))else(none))else(none))else(some true)
def laws_rows9.f (k:Nat) (l0:List (List Int)) (l1:List (List Int)):Option (Bool):=if(l0.length:Int)=(l1.length:Int)then(laws_rows9.l0 k l0 l1 0)else(some false)
set_option maxHeartbeats 8000000 in
set_option maxRecDepth 100000 in
theorem laws_rows9.calls (k:Nat) (A0:Option Addr) (c0:Nat) (l0:List (List Int)) (A1:Option Addr) (c1:Nat) (l1:List (List Int)) (r:Bool) (w:World) (hr0:Kd.C (Kd.slice 2 (Kd.int .i64)) w A0 l0.length l0) (hc0:l0.length≤c0) (hr1:Kd.C (Kd.slice 2 (Kd.int .i64)) w A1 l1.length l1) (hc1:l1.length≤c1) (h:laws_rows9.f k l0 l1=some r) :
    Calls Tryd.prog 32 #[.slice A0 l0.length c0,.slice A1 l1.length c1] w fun e w'=>e=.returned (.bool r)∧Drawn0 w w':=by
  (have HR0:=Aside0.mk hr0);(have HC0:=Aside0.mk hc0);clear hr0 hc0;(have HR1:=Aside0.mk hr1);(have HC1:=Aside0.mk hc1);clear hr1 hc1;(have H:(if(l0.length:Int)=(l1.length:Int)then(laws_rows9.l0 k l0 l1 0)else(some false))=some r:=h);clear h;(replace H:=Yp H);(obtain⟨c3,H⟩|⟨c3,H⟩:=H)
  · obtain⟨c3b0,c3b1⟩:=Yv c3
    (have c3b2:(l0.length==l1.length)=true:=by first|simpa using c3|(simp at c3 ⊢;omega));clear c3;(have H':=Aside0.mk H);clear H;(go_enter Tryd.func32,Tryd.ntmps32);go_wp2;(repeat(go_quiet(fail);try go_wp2));(go_loopg[5] k (fun kq v5 w'=>∃(x5_1:Int),v5=.int .i64 x5_1∧Aside0 (laws_rows9.l0 kq l0 l1 x5_1=some r)∧Aside0 (kq≤k)∧Drawn0 w w'));(case atStart=>exact⟨(0),Yk,H',⟨Nat.le_refl _⟩,by repeat(first|exact Drawn0.refl _|apply Drawn0.step)⟩)
    case round=>
      (clear H');(try clear c3b0);(try clear c3b1);(try clear c3b2);(obtain⟨x5_1,rfl,HA,HK1,⟨m1,rfl⟩⟩:=hrel)
      cases gk with
      |zero=>exact absurd HA.out (by simp[laws_rows9.l0])
      |succ k1=>
        (have H:=HA.out);clear HA;(simp only[laws_rows9.l0]at H);(replace H:=Yp H);(obtain⟨c4,H⟩|⟨c4,H⟩:=H);(· (have c4b0:=decide_eq_true c4);clear c4;(replace H:=Dn2 H);(obtain⟨c5b0,c6b0,H⟩:=H);(replace H:=Yq H);(obtain⟨t137,A7,H⟩:=H);(by_cases c8:t137=true);(· subst c8;(replace H:=Ybt H);(have H':=Aside0.mk H);clear H;(have p135:0≤(x5_1:Int):=Ym);(have q135:x5_1<(l0.length:Int):=Ym);(obtain⟨ad135,A135_0,c135_0,e135,hx135_0,hl135_0,hi135_0⟩:=at_L2 HR0.out x5_1 p135 q135);(cases e135);(have HR135_0:=Aside0.mk hi135_0);(have HC135_0:=Aside0.mk hl135_0);clear hi135_0 hl135_0;(replace p135:=eq_true p135);(replace q135:=eq_true q135);(have p136:0≤(x5_1:Int):=Ym);(have q136:x5_1<(l1.length:Int):=Ym);(obtain⟨ad136,A136_0,c136_0,e136,hx136_0,hl136_0,hi136_0⟩:=at_L2 HR1.out x5_1 p136 q136);(cases e136);(have HR136_0:=Aside0.mk hi136_0);(have HC136_0:=Aside0.mk hl136_0);clear hi136_0 hl136_0;(replace p136:=eq_true p136);(replace q136:=eq_true q136);(go_wp2_with(first|(go_at_call 11;(with_reducible refine(laws_likeInts.calls k1 _ _ (rd_L2 l0 x5_1) _ _ (rd_L2 l1 x5_1) true _ ?side1 ?side2 ?side3 ?side4 A7.out).mono ?_);(case side1=>exact Yg HR135_0.out);(case side2=>exact HC135_0.out);(case side3=>exact Yg HR136_0.out);(case side4=>exact HC136_0.out);rintro e w' ⟨rfl,⟨nd,rfl⟩⟩;(try first|exact⟨rfl,_,World.drewN_drewN _ _ _⟩|exact⟨rfl,_,Eq.trans (World.drewN_drewN _ _ _) (congrArg (World.drewN _) (Nat.add_assoc _ _ _))⟩))));(repeat(go_quiet(first|(go_at_call 11;(with_reducible refine(laws_likeInts.calls k1 _ _ (rd_L2 l0 x5_1) _ _ (rd_L2 l1 x5_1) true _ ?side1 ?side2 ?side3 ?side4 A7.out).mono ?_);(case side1=>exact Yg HR135_0.out);(case side2=>exact HC135_0.out);(case side3=>exact Yg HR136_0.out);(case side4=>exact HC136_0.out);rintro e w' ⟨rfl,⟨nd,rfl⟩⟩;(try first|exact⟨rfl,_,World.drewN_drewN _ _ _⟩|exact⟨rfl,_,Eq.trans (World.drewN_drewN _ _ _) (congrArg (World.drewN _) (Nat.add_assoc _ _ _))⟩)));try go_wp2_with(first|(go_at_call 11;(with_reducible refine(laws_likeInts.calls k1 _ _ (rd_L2 l0 x5_1) _ _ (rd_L2 l1 x5_1) true _ ?side1 ?side2 ?side3 ?side4 A7.out).mono ?_);(case side1=>exact Yg HR135_0.out);(case side2=>exact HC135_0.out);(case side3=>exact Yg HR136_0.out);(case side4=>exact HC136_0.out);rintro e w' ⟨rfl,⟨nd,rfl⟩⟩;(try first|exact⟨rfl,_,World.drewN_drewN _ _ _⟩|exact⟨rfl,_,Eq.trans (World.drewN_drewN _ _ _) (congrArg (World.drewN _) (Nat.add_assoc _ _ _))⟩)))));(go_roundg k1);(case measure=>have:=HK1.out;omega);(case rel=>exact⟨(wrap64 (x5_1+1)),Yk,H',⟨by have:=HK1.out;omega⟩,by repeat(first|exact Drawn0.refl _|apply Drawn0.step)⟩));(· (replace c8:=Bool.eq_false_iff.mpr c8);subst c8;(replace H:=Ybf H);(obtain rfl:=Option.some.inj H);(have p135:0≤(x5_1:Int):=Ym);(have q135:x5_1<(l0.length:Int):=Ym);(obtain⟨ad135,A135_0,c135_0,e135,hx135_0,hl135_0,hi135_0⟩:=at_L2 HR0.out x5_1 p135 q135);(cases e135);(have HR135_0:=Aside0.mk hi135_0);(have HC135_0:=Aside0.mk hl135_0);clear hi135_0 hl135_0;(replace p135:=eq_true p135);(replace q135:=eq_true q135);(have p136:0≤(x5_1:Int):=Ym);(have q136:x5_1<(l1.length:Int):=Ym);(obtain⟨ad136,A136_0,c136_0,e136,hx136_0,hl136_0,hi136_0⟩:=at_L2 HR1.out x5_1 p136 q136);(cases e136);(have HR136_0:=Aside0.mk hi136_0);(have HC136_0:=Aside0.mk hl136_0);clear hi136_0 hl136_0;(replace p136:=eq_true p136);(replace q136:=eq_true q136);(go_wp2_with(first|(go_at_call 11;(with_reducible refine(laws_likeInts.calls k1 _ _ (rd_L2 l0 x5_1) _ _ (rd_L2 l1 x5_1) false _ ?side1 ?side2 ?side3 ?side4 A7.out).mono ?_);(case side1=>exact Yg HR135_0.out);(case side2=>exact HC135_0.out);(case side3=>exact Yg HR136_0.out);(case side4=>exact HC136_0.out);rintro e w' ⟨rfl,⟨nd,rfl⟩⟩;(try first|exact⟨rfl,_,World.drewN_drewN _ _ _⟩|exact⟨rfl,_,Eq.trans (World.drewN_drewN _ _ _) (congrArg (World.drewN _) (Nat.add_assoc _ _ _))⟩))));(repeat(go_quiet(first|(go_at_call 11;(with_reducible refine(laws_likeInts.calls k1 _ _ (rd_L2 l0 x5_1) _ _ (rd_L2 l1 x5_1) false _ ?side1 ?side2 ?side3 ?side4 A7.out).mono ?_);(case side1=>exact Yg HR135_0.out);(case side2=>exact HC135_0.out);(case side3=>exact Yg HR136_0.out);(case side4=>exact HC136_0.out);rintro e w' ⟨rfl,⟨nd,rfl⟩⟩;(try first|exact⟨rfl,_,World.drewN_drewN _ _ _⟩|exact⟨rfl,_,Eq.trans (World.drewN_drewN _ _ _) (congrArg (World.drewN _) (Nat.add_assoc _ _ _))⟩)));try go_wp2_with(first|(go_at_call 11;(with_reducible refine(laws_likeInts.calls k1 _ _ (rd_L2 l0 x5_1) _ _ (rd_L2 l1 x5_1) false _ ?side1 ?side2 ?side3 ?side4 A7.out).mono ?_);(case side1=>exact Yg HR135_0.out);(case side2=>exact HC135_0.out);(case side3=>exact Yg HR136_0.out);(case side4=>exact HC136_0.out);rintro e w' ⟨rfl,⟨nd,rfl⟩⟩;(try first|exact⟨rfl,_,World.drewN_drewN _ _ _⟩|exact⟨rfl,_,Eq.trans (World.drewN_drewN _ _ _) (congrArg (World.drewN _) (Nat.add_assoc _ _ _))⟩)))));go_ret;(exact⟨by first|rfl|(simp;done)|(simp[*];done),by repeat(first|exact Drawn0.refl _|apply Drawn0.step)⟩)));(· (have c4b0:=decide_eq_false c4);clear c4;(obtain rfl:=Option.some.inj H);go_wp2;(repeat(go_quiet(fail);try go_wp2));go_ret;(exact⟨by first|rfl|(simp;done)|(simp[*];done),by repeat(first|exact Drawn0.refl _|apply Drawn0.step)⟩))
  · obtain⟨c3b0,c3b1⟩:=Yw c3
    (have c3b2:(l0.length==l1.length)=false:=by first|simpa using c3|(simp at c3 ⊢;omega));(obtain rfl:=Option.some.inj H);(go_enter Tryd.func32,Tryd.ntmps32);go_wp2;(repeat(go_quiet(fail);try go_wp2));go_ret;(exact⟨by first|rfl|(simp;done)|(simp[*];done),by repeat(first|exact Drawn0.refl _|apply Drawn0.step)⟩)
def bits_Mul64.f (a0:Int) (a1:Int):Option (Int × Int):=some (IntKind.u64.wrap ((IntKind.u64.wrap ((IntKind.u64.wrap ((a0/4294967296)*(a1/4294967296)))+((IntKind.u64.wrap ((IntKind.u64.wrap ((a0/4294967296)*(Go.bits .and .u64 a1 4294967295)))+((IntKind.u64.wrap ((Go.bits .and .u64 a0 4294967295)*(Go.bits .and .u64 a1 4294967295)))/4294967296)))/4294967296)))+((IntKind.u64.wrap ((Go.bits .and .u64 (IntKind.u64.wrap ((IntKind.u64.wrap ((a0/4294967296)*(Go.bits .and .u64 a1 4294967295)))+((IntKind.u64.wrap ((Go.bits .and .u64 a0 4294967295)*(Go.bits .and .u64 a1 4294967295)))/4294967296))) 4294967295)+(IntKind.u64.wrap ((Go.bits .and .u64 a0 4294967295)*(a1/4294967296)))))/4294967296)),IntKind.u64.wrap (a0*a1))
set_option maxHeartbeats 8000000 in
set_option maxRecDepth 100000 in
theorem bits_Mul64.calls (a0:Int) (a1:Int) (r1:Int) (r2:Int) (w:World) (h:bits_Mul64.f a0 a1=some (r1,r2)) :
    Calls Tryd.prog 211 #[.int .u64 a0,.int .u64 a1] w fun e w'=>e=.returned (.tuple #[.int .u64 r1,.int .u64 r2])∧Drawn0 w w':=by
  (have H:(some (IntKind.u64.wrap ((IntKind.u64.wrap ((IntKind.u64.wrap ((a0/4294967296)*(a1/4294967296)))+((IntKind.u64.wrap ((IntKind.u64.wrap ((a0/4294967296)*(Go.bits .and .u64 a1 4294967295)))+((IntKind.u64.wrap ((Go.bits .and .u64 a0 4294967295)*(Go.bits .and .u64 a1 4294967295)))/4294967296)))/4294967296)))+((IntKind.u64.wrap ((Go.bits .and .u64 (IntKind.u64.wrap ((IntKind.u64.wrap ((a0/4294967296)*(Go.bits .and .u64 a1 4294967295)))+((IntKind.u64.wrap ((Go.bits .and .u64 a0 4294967295)*(Go.bits .and .u64 a1 4294967295)))/4294967296))) 4294967295)+(IntKind.u64.wrap ((Go.bits .and .u64 a0 4294967295)*(a1/4294967296)))))/4294967296)),IntKind.u64.wrap (a0*a1)))=some (r1,r2):=h);clear h;(simp only[Option.some.injEq,Prod.mk.injEq]at H);(obtain⟨rfl,rfl⟩:=H);(go_enter Tryd.func211,Tryd.ntmps211);go_wp2;(go_ret2);(exact⟨by first|rfl|(simp;done)|(simp[*];done),by repeat(first|exact Drawn0.refl _|apply Drawn0.step)⟩)
def bits_Mul.f (a0:Int) (a1:Int):Option (Int × Int):=(bits_Mul64.f a0 a1).bind fun bt138=>(some (bt138.1,bt138.2))
set_option maxHeartbeats 8000000 in
set_option maxRecDepth 100000 in
theorem bits_Mul.calls (a0:Int) (a1:Int) (r1:Int) (r2:Int) (w:World) (h:bits_Mul.f a0 a1=some (r1,r2)) :
    Calls Tryd.prog 201 #[.int .u64 a0,.int .u64 a1] w fun e w'=>e=.returned (.tuple #[.int .u64 r1,.int .u64 r2])∧Drawn0 w w':=by
  (have H:((bits_Mul64.f a0 a1).bind fun bt138=>(some (bt138.1,bt138.2)))=some (r1,r2):=h);clear h;(replace H:=Yq H);(obtain⟨⟨t138,t139⟩,A3,H⟩:=H);(try dsimp only at H);(simp only[Option.some.injEq,Prod.mk.injEq]at H);(obtain⟨rfl,rfl⟩:=H);(go_enter Tryd.func201,Tryd.ntmps201);(go_wp2_with(first|(refine Y5 211 (some 25) Tryd.func211 #[.int .u64 a0,.int .u64 a1] ?_;(with_reducible refine(bits_Mul64.calls a0 a1 t138 t139 _ A3.out).mono ?_);rintro e w' ⟨rfl,⟨nd,rfl⟩⟩;refine⟨_,rfl,?_⟩)));(go_ret2);(exact⟨by first|rfl|(simp;done)|(simp[*];done),by repeat(first|exact Drawn0.refl _|apply Drawn0.step)⟩)
end Go.Proofs.YtmofdldplbplbaaDoor.P
