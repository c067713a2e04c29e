-- Printed by a program of this workplace (wip/xp/xp.py), joined by wip/bin/mergeP.
import Derived.Test.YtmofdldplbplbaaGreatDoorMFG0
import Derived.Test.YtmofdldplbplbaaGreatDoorMFG11
import Derived.Test.YtmofdldplbplbaaGreatDoorMFG9
import Derived.Test.YtmofdldplbplbaaGreatDoorMFG7
namespace Go.Proofs.YtmofdldplbplbaaGreatDoor.P
open Go.RowKit Go.Proofs.YtmofdldplbplbaaGreatDoorW.PrintWords Go.Proofs.YtmofdldplbplbaaGreatDoorW.PrintLast Go.Proofs.YtmofdldplbplbaaGreatDoorW.PrintMore
attribute [local go_sem] max2_int min2_int max_two min_two max_three min_three max_four min_four
set_option linter.unusedVariables false
set_option linter.unusedSimpArgs false
def Qbz.ren:Go.Shelf.Ren:=⟨fun|156=>92|165=>100|166=>101|169=>102|240=>114|241=>115|276=>124|277=>125|n=>n,fun|31=>65|9=>9|3=>3|4=>4|0=>0|20=>20|72=>107|76=>111|70=>105|37=>22|75=>110|127=>124|164=>133|5=>5|80=>113|n=>n,fun|n=>n⟩
theorem Qbz.laid:Go.Proofs.Lays.n156 Tryz.prog Qbz.ren:={
  mixed:=by kernel_rfl
  f156:=Tryz.func92.trans (congrArg some (by kernel_rfl))
  f165:=Tryz.func100.trans (congrArg some (by kernel_rfl))
  f166:=Tryz.func101.trans (congrArg some (by kernel_rfl))
  f169:=Tryz.func102.trans (congrArg some (by kernel_rfl))
  f240:=Tryz.func114.trans (congrArg some (by kernel_rfl))
  f241:=Tryz.func115.trans (congrArg some (by kernel_rfl))
  f276:=Tryz.func124.trans (congrArg some (by kernel_rfl))
  f277:=Tryz.func125.trans (congrArg some (by kernel_rfl))
  t0:=Tryz.underlying0
  a0:=Tryz.isAgg0
  z0:=Tryz.sizeOf0
  v0:=Tryz.zeroValue0
  t3:=Tryz.underlying3
  a3:=Tryz.isAgg3
  z3:=Tryz.sizeOf3
  v3:=Tryz.zeroValue3
  t4:=Tryz.underlying4
  a4:=Tryz.isAgg4
  z4:=Tryz.sizeOf4
  v4:=Tryz.zeroValue4
  t9:=Tryz.underlying9
  a9:=Tryz.isAgg9
  z9:=Tryz.sizeOf9
  v9:=Tryz.zeroValue9
  t20:=Tryz.underlying20
  a20:=Tryz.isAgg20
  z20:=Tryz.sizeOf20
  v20:=Tryz.zeroValue20
  t31:=Tryz.underlying65
  a31:=Tryz.isAgg65
  z31:=Tryz.sizeOf65
  v31:=Tryz.zeroValue65
  t37:=Tryz.underlying22
  a37:=Tryz.isAgg22
  z37:=Tryz.sizeOf22
  v37:=Tryz.zeroValue22
  t70:=Tryz.underlying105
  a70:=Tryz.isAgg105
  z70:=Tryz.sizeOf105
  v70:=Tryz.zeroValue105
  t72:=Tryz.underlying107
  a72:=Tryz.isAgg107
  z72:=Tryz.sizeOf107
  v72:=Tryz.zeroValue107
  t75:=Tryz.underlying110
  a75:=Tryz.isAgg110
  z75:=Tryz.sizeOf110
  v75:=Tryz.zeroValue110
  t76:=Tryz.underlying111
  a76:=Tryz.isAgg111
  z76:=Tryz.sizeOf111
  v76:=Tryz.zeroValue111
  t127:=Tryz.underlying124
  a127:=Tryz.isAgg124
  z127:=Tryz.sizeOf124
  v127:=Tryz.zeroValue124
  t164:=Tryz.underlying133
  a164:=Tryz.isAgg133
  z164:=Tryz.sizeOf133
  v164:=Tryz.zeroValue133}
theorem Qbz.extra:Builder.Extra Tryz.prog Qbz.ren:={
  sizeBuilder:=by kernel_rfl
  liesBuilder:=by kernel_rfl
  t5:=Tryz.underlying5
  a5:=Tryz.isAgg5
  z5:=Tryz.sizeOf5
  v5:=Tryz.zeroValue5
  infoByte:=by kernel_rfl
  cellsByte:=by kernel_rfl
  sizeByte:=by kernel_rfl
  neB5:=by decide}
def Qbz.f (l0:List ByteArray) (a1:ByteArray):Option (ByteArray × List ByteArray):=if l0.length<1000000 then if(Lib.join (l0.map (·.data.toList)) a1.data.toList).length<1000000 then some (⟨(Lib.join (l0.map (·.data.toList)) a1.data.toList).toArray⟩,l0)else none else none
theorem Qbz.calls (P0_:Nat→Prop) (u9000_:Value) (l0:List ByteArray) (a1:ByteArray) (r1:ByteArray) (r2:List ByteArray) (w0 w:World) (hB:Below w0.heap.size w0 w) (ho0:Kd.R Kd.string 9 w w0.heap.size P0_ u9000_ l0) (h:Qbz.f l0 a1=some (r1,r2)) :
    Calls Tryz.prog 92 #[u9000_,.string a1] w fun e w'=>e=.returned (.string r1)∧Kd.R Kd.string 9 w' w0.heap.size (fun k_=>(P0_ k_∨w.heap.size≤k_)) u9000_ r2∧Below w0.heap.size w0 w'∧Kept w w' (fun k_=>P0_ k_):=by
  unfold Qbz.f at h
  split at h
  case isFalse=>cases h
  case isTrue h1=>
  split at h
  case isFalse=>cases h
  case isTrue h2=>
  obtain⟨rfl,rfl⟩:=Prod.mk.inj (Option.some.inj h)
  clear h
  have last:∀w',Below w.heap.size w w'→Kd.R Kd.string 9 w' w0.heap.size (fun k_=>(P0_ k_∨w.heap.size≤k_)) u9000_ l0∧Below w0.heap.size w0 w'∧Kept w w' (fun k_=>P0_ k_):=
    fun w' hb=>⟨Kd.R_mono (Kd.R_below ho0 hb) (fun _ hk=>.inl hk),hB.trans (hb.mono hB.size),Kept.of_below hb _⟩
  have ho1:=ho0
  obtain⟨hok,inner,⟨hin,hown⟩,hr⟩:=ho0
  rcases hown with⟨he,h0⟩|⟨g,cap,cur,he,hb,hh,hnc,hcm,hcs,ht⟩
  · have hl:l0=[]:=List.eq_nil_of_length_eq_zero h0
    subst hl
    subst he
    have hcon:=Any.strings_Join_none Qbz.laid Qbz.extra none 0 a1 w
    change Calls Tryz.prog 92 _ _ _ at hcon
    refine hcon.mono ?_
    rintro e w' ⟨rfl,rfl⟩
    exact⟨rfl,last _ (Below.refl _ _)⟩
  · subst he
    have hcells:∀(j:Nat) x,l0[j]? =some x→w.cell? ⟨g,0+j,none⟩=some (.string x):=by
      intro j x hj
      obtain⟨hjl,hx⟩:=List.getElem?_eq_some_iff.1 hj
      have:=(Kd.R_cell ByteArray.empty ho1 (j:Int) (by omega) (by omega)).1
      rw[Int.toNat_natCast]at this
      rw[Nat.zero_add,this]
      simp[rdOf,List.getD_eq_getElem?_getD,hj]
    have hcon:=Any.strings_Join Qbz.laid Qbz.extra g 0 cap l0 a1 w hcells (blk_lt hh) (by omega) (by omega) (by omega)
    change Calls Tryz.prog 92 _ _ _ at hcon
    refine hcon.mono ?_
    rintro e w' ⟨rfl,hb'⟩
    exact⟨rfl,last _ hb'⟩
def Qbd.l0:Nat→ByteArray→List ByteArray→List (List Int)→Int→Int→Option (ByteArray)
  |0,_,_,_,_,_=>none
  |k+1,x1,x5,x9,e,a=>if a<e then(if 0≤a then(if a<(x9.length:Int)then(if 0<((rd_L4 x9 a).length:Int)then((Qcj.f (rd (rd_L4 x9 a) 0)).bind fun b=>(if b.size+x1.size≤9223372036854775807 then(if 1<((rd_L4 x9 a).length:Int)then((Qcj.f (rd (rd_L4 x9 a) 1)).bind fun c=>(if(b++x1).size+c.size≤9223372036854775807 then(if x5.length<8796093022208 then(Qbd.l0 k x1 (x5++[(b++x1)++c]) x9 e (wrap64 (a+1)))else(none))else(none)))else(none))else(none)))else(none))else(none))else(none))else((Qbz.f x5 (⟨#[44]⟩:ByteArray)).bind fun d=>(some d.1))
def Qbd.f (k:Nat) (l0:List (List Int)) (a1:ByteArray):Option (ByteArray):=Qbd.l0 k a1 (([]:List ByteArray)) l0 (l0.length:Int) 0
def Qbd.T5:Bool × List (List Nat × List Nat):=(true,[([],[]),([],[]),([1],[1]),([2],[2]),([3],[3]),([],[]),([4,5],[4,5]),([],[]),([7],[7]),([8],[8]),([9,4],[9]),([6,10],[6,10]),([11],[11]),([0,12,10],[0,12]),([13,13,0,1,2,3,4,5,6,7,8,9,10,11,12,13],[0,13])])
def Qbd.B5:List Nat:=[0,0,2,6,14,0,62,0,128,384,926,2046,4094,8191,16383]
theorem Qbd.tab5:rtab .any (opsOf Tryz.f72 5)=Qbd.T5:=by kernel_rfl
theorem Qbd.bits5:waitsOk Qbd.T5.2 Qbd.B5=true:=by kernel_rfl
set_option maxHeartbeats 8000000 in
set_option maxRecDepth 100000 in
theorem Qbd.calls (k:Nat) (A0:Option Addr) (c0:Nat) (l0:List (List Int)) (a1:ByteArray) (r:ByteArray) (w:World) (d0:Kd.C (Kd.slice 2 (Kd.int .i64)) w A0 l0.length l0) (c1:l0.length≤c0) (h:Qbd.f k l0 a1=some r) :
    Calls Tryz.prog 72 #[.slice A0 l0.length c0,.string a1] w fun e w'=>e=.returned (.string r)∧Below w.heap.size w w':=by
  (have e6:=Am d0);have g6:=Am c1;clear d0 c1;have HB:=Am (Below.refl w.heap.size w);(have H:(Qbd.l0 k a1 (([]:List ByteArray)) l0 (l0.length:Int) 0)=some r:=h);clear h;(obtain⟨b2,o⟩:∃y_:List ByteArray,y_=(([]:List ByteArray)):=⟨_,rfl⟩);(replace H:(Qbd.l0 k a1 b2 l0 (l0.length:Int) 0)=some r:=by first|(rw[o];with_reducible exact H)|(have b0:=(Option.bind_some _ _).symm.trans H;rw[o];with_reducible exact b0)|(have b0:=(Option.bind_some _ _).symm.trans H;with_reducible exact b0)|with_reducible exact H|(rw[o];exact H)|exact H);have a8:=Am o;clear o;have H':=Am H;clear H;(go_enter Tryz.func72,Tryz.ntmps72);(go_wp2_with(first|((with_reducible refine gate_dst (N:=8) rfl ?_);refine Kd.R_lit Kd.string _ 9 ?hg (N:=8) ?hd (xs:=([]:List ByteArray)) (inner:=[]) (ok:=fun _=>True) (okp:=fun _=>True) ?hr ?hp (fun _ hk=>hk) trivial (Below.refl _ _) (Nat.le_refl _) (by simp) ?_;(case hd=>rfl);(case hg=>rfl);(case hr=>first|(go_simp;done)|(go_simp;rfl));(case hp=>exact(Reps.none _ _));intro g4 w3 y hb hg_ hnew_;clear hg_ hnew_;(first|rw[← a8.out]at y|(simp only[Int.reduceToNat]at y;rw[← a8.out]at y));have b3:=Am (Kd.R_lower y (below_size (Ya)));replace HB:=Zs hb;clear hb y)));(go_loopg[5,11] k (fun kq v5 e8 w'=>∃(l:List ByteArray) (c:Int),e8=.int .i64 c∧Aside0 (Qbd.l0 kq a1 l l0 (l0.length:Int) c=some r)∧Aside0 (kq≤k)∧Aside0 (Kd.R Kd.string 9 w' w.heap.size (fun _=>True) v5 l)∧Aside0 (Below w.heap.size w w')));(case atStart=>exact⟨(b2),(0),Yk,H',⟨Nat.le_refl _⟩,⟨YcR b3⟩,⟨Ya⟩⟩)
  case round=>
    (clear H');(obtain⟨l,c,rfl,HA,b8,i,HB⟩:=hrel)
    cases gk with
    |zero=>exact absurd HA.out (by simp[Qbd.l0])
    |succ k1=>
      (have H:=HA.out);clear HA;simp only[Qbd.l0]at H;replace H:=Yp H;(obtain⟨c5,H⟩|⟨c5,H⟩:=H);(· (have d4:=decide_eq_true c5);clear c5;replace H:=Dn2 H;obtain⟨g0,g1,H⟩:=H;replace H:=Yn H;obtain⟨c8,H⟩:=H;(have g2:decide (0<((rd_L4 l0 c).length:Int))=true:=decide_eq_true c8);(have g3:decide (0<(rd_L4 l0 c).length)=true:=decide_eq_true (by omega));clear c8;replace H:=Yq H;obtain⟨j,A9,H⟩:=H;replace H:=Yn H;obtain⟨c10,H⟩:=H;have f0:=eq_true c10;have f1:decide (j.size+a1.size≤9223372036854775807)=true:=decide_eq_true c10;(try have f2:(9223372036854775807<j.size+a1.size)=False:=eq_false (Nat.not_lt.2 c10));replace H:=Yn H;obtain⟨b9,H⟩:=H;(have f3:decide (1<((rd_L4 l0 c).length:Int))=true:=decide_eq_true b9);(have f4:decide (1<(rd_L4 l0 c).length)=true:=decide_eq_true (by omega));clear b9;replace H:=Yq H;obtain⟨m,e3,H⟩:=H;replace H:=Yn H;obtain⟨b1,H⟩:=H;have f5:=eq_true b1;have f6:decide ((j++a1).size+m.size≤9223372036854775807)=true:=decide_eq_true b1;(try have b7:(9223372036854775807<(j++a1).size+m.size)=False:=eq_false (Nat.not_lt.2 b1));(try have f7:(9223372036854775807<j.size+a1.size+m.size)=False:=by have e_:=b7;simp only[ByteArray.size_append]at e_;exact e_);replace H:=Ln H;obtain⟨b5,H⟩:=H;obtain⟨e1,a9⟩:=Ys (l++[(j++a1)++m]:List ByteArray);rw[← a9.out]at H;have H':=Am H;clear H;have a2:0≤(c:Int):=Ym;have a5:c<(l0.length:Int):=Ym;obtain⟨e9,e5,e7,d5,p,x,t⟩:=at_L4 e6.out c a2 a5;cases d5;replace p:=(HB.out.cell (World.block_lt_of_cell? _ _ p)).trans p;have s:=Am t;have e2:=Am x;clear t x;replace a2:=eq_true a2;replace a5:=eq_true a5;(try go_wp2);replace i:=Am (Kd.R_drew i.out);replace HB:=Am (below_drew1 HB.out);(have a3:0≤(0:Int):=(by omega));have a6:0<((rd_L4 l0 c).length:Int):=Ym;obtain⟨q,d6,d⟩:=Kd.at_int s.out 0 a3 a6;have a:=d;(try rw[show((0:Int)).toNat=0 from rfl]at a);(try rw[show 0*1=0 from rfl]at a);(try rw[Addr.add_zero']at a);cases d6;(have f8:(0<(rd_L4 l0 c).length)=True:=eq_true (by omega));(try rw[show((0:Int)).toNat=0 from rfl]at d);(try rw[Addr.add_zero']at d);replace d:=(HB.out.cell (World.block_lt_of_cell? _ _ d)).trans d;replace a3:=eq_true a3;replace a6:=eq_true a6;(have a4:0≤(1:Int):=(by omega));have a7:1<((rd_L4 l0 c).length:Int):=Ym;obtain⟨b6,d7,g⟩:=Kd.at_int s.out 1 a4 a7;have b:=g;(try rw[show((1:Int)).toNat=1 from rfl]at b);(try rw[show 1*1=1 from rfl]at b);(try simp only[Nat.reduceMul,Nat.reduceEqDiff,Go.Addr.add,↓reduceIte]at b);(obtain rfl:q=b6:=(by injection d7));(try simp only[show(1:Int).toNat=1 from rfl,Nat.reduceMul,Nat.reduceEqDiff,Go.Addr.add,↓reduceIte]at g);(have f9:(1<(rd_L4 l0 c).length)=True:=eq_true (by omega));(try rw[show((1:Int)).toNat=1 from rfl]at g);replace g:=(HB.out.cell (World.block_lt_of_cell? _ _ g)).trans g;replace a4:=eq_true a4;replace a7:=eq_true a7;(refine start_ (n:=15) (S:=fun w'=>w'.cell? q=some (.int .i64 (rd (rd_L4 l0 c) 0))∧w'.cell? ⟨q.block,q.off+1,none⟩=some (.int .i64 (rd (rd_L4 l0 c) 1))) (ds:=[]) #[false,false,false,false,false,false,false,false,false,false,false,false,false,false,false] (by kernel_rfl) rfl rfl ⟨((HB.out.cell (World.block_lt_of_cell? _ _ a)).trans a),((HB.out.cell (World.block_lt_of_cell? _ _ b)).trans b)⟩ (fun hHeld=>?_);refine with_tabW Qbd.tab5 Qbd.bits5 (fun HT_ HW_=>?_));(generalize wr.drew=g7 at i HB d g hHeld ⊢);(refine Y6 0 (some 15) HT_ ?_);(refine Y6 1 (some 16) HT_ ?_);(refine Y6 2 (some 17) HT_ ?_);(refine Y6 5 (some 20) HT_ ?_);(refine Y6 7 (some 22) HT_ ?_);(refine Y6 8 (some 23) HT_ ?_);(refine Y7 3 (some 18) HT_ HW_ hHeld ?_);(refine Y7 9 (some 24) HT_ HW_ hHeld ?_);(refine Y8 4 (some 19) HT_ (fun K hK=>?_));(refine goes_ Tryz.func71 (by kernel_rfl) rfl #[.int .i64 (rd (rd_L4 l0 c) 0)] (by rfl) rfl rfl Yj ?_);(with_reducible refine(Qcj.calls (rd (rd_L4 l0 c) 0) j _ A9.out).mono ?_);rintro e w' ⟨rfl,⟨nd,rfl⟩⟩;(refine⟨_,rfl,?_⟩);(refine hK.out _ _ ⟨((HB.out.cell (World.block_lt_of_cell? _ _ a)).trans a),((HB.out.cell (World.block_lt_of_cell? _ _ b)).trans b)⟩ (fun hHeld=>?_));clear hK K;(refine Ynorm (some 19) ?_);(refine Y6 6 (some 21) HT_ ?_);(refine Y8 10 (some 25) HT_ (fun K hK=>?_));(refine goes_ Tryz.func71 (by kernel_rfl) rfl #[.int .i64 (rd (rd_L4 l0 c) 1)] (by rfl) rfl rfl Yj ?_);(with_reducible refine(Qcj.calls (rd (rd_L4 l0 c) 1) m _ e3.out).mono ?_);rintro e w' ⟨rfl,⟨nd,rfl⟩⟩;(refine⟨_,rfl,?_⟩);(refine hK.out _ _ ⟨((HB.out.cell (World.block_lt_of_cell? _ _ a)).trans a),((HB.out.cell (World.block_lt_of_cell? _ _ b)).trans b)⟩ (fun hHeld=>?_));clear hK K;(refine Ynorm (some 25) ?_);(refine Y6 11 (some 26) HT_ ?_);(refine Y8 12 (some 27) HT_ (fun K hK=>?_));(refine value_ (w1:=?_) (v:=?_) (by rfl) rfl ?_ ?_);(rotate_left 2);(· go_simp;constructor;(· rfl);(· rfl));(refine hK.out _ _ ⟨(World.cell?_alloc_lt _ _ _ (World.block_lt_of_cell? _ _ (((HB.out.cell (World.block_lt_of_cell? _ _ a)).trans a)))).trans (((HB.out.cell (World.block_lt_of_cell? _ _ a)).trans a)),(World.cell?_alloc_lt _ _ _ (World.block_lt_of_cell? _ _ (((HB.out.cell (World.block_lt_of_cell? _ _ b)).trans b)))).trans (((HB.out.cell (World.block_lt_of_cell? _ _ b)).trans b))⟩ (fun hHeld=>?_));clear hK K;(refine Ynorm (some 27) ?_);(refine Y8 13 (some 28) HT_ (fun K hK=>?_));(refine Kd.R_append_step Kd.string (w0:=w) w.heap.size (by rfl) (.tmp 15) (.tmp 27) 65 9 (.string ⟨#[]⟩) 16 rfl Tryz.underlying65 info9 rfl (by decide) (by omega) u5 l ((j++a1)++m) [.string ((j++a1)++m)] (fun _=>True) (fun _=>False) rfl rfl ?aP (fun _ hk=>hk.elim) ?aF ?aO ?aB ?aS ?aL ?_);(case aP=>exact rfl);(case aB=>exact(Ya));(case aF=>exact(fun _ _=>trivial));(case aO=>exact(YcR i));(case aS=>exact(below_size (Ya)));(case aL=>have:=b5.out;omega);intro g5 g8 ho hb hg hat;rw[← a9.out]at ho;have d2:=Am (hb);have d3:=Am (ho);clear HB;clear i;have HB:=d2;have b4:=d3;clear d2 d3;clear ho hb hg hat;(refine hK.out _ _ ⟨((HB.out.cell (World.block_lt_of_cell? _ _ a)).trans a),((HB.out.cell (World.block_lt_of_cell? _ _ b)).trans b)⟩ (fun hHeld=>?_));clear hK K;(refine Ynorm (some 28) ?_);(refine Y6 14 (some 5) HT_ ?_);(refine done_ (done_of HT_.out (by kernel_rfl)) ?_);(try go_wp2);(go_roundg k1);(case measure=>have:=b8.out;omega);(case rel=>exact⟨(e1),(wrap64 (c+1)),Yk,H',⟨by have:=b8.out;omega⟩,⟨YcR b4⟩,⟨Ya⟩⟩))
      · have d4:=decide_eq_false c5
        clear c5;replace H:=Yq H;obtain⟨⟨d9,e0⟩,e4,H⟩:=H;(try dsimp only at H);obtain rfl:=Option.some.inj H;obtain⟨z,a0,d8⟩:=Kd.R_slice i.out;subst d8;(go_wp2_with(first|(refine Y5 92 (some 31) Tryz.func92 #[.slice z l.length a0,.string (⟨#[44]⟩:ByteArray)] ?_;(with_reducible refine(Qbz.calls (fun k_=>some k_=(.slice z l.length a0:Value).ownBlock) (.slice z l.length a0) l (⟨#[44]⟩:ByteArray) d9 e0 w _ ?side1 ?side2 e4.out).mono ?_);(case side1=>exact Ya);(case side2=>exact Kd.R_tight rfl i.out);rintro e g9 ⟨rfl,d1,hb,hkp⟩;refine⟨_,rfl,?_⟩;replace i:=Am (Kd.R_reok rfl d1 (fun k_ e_=>i.out.1 k_ e_));replace HB:=Am (hb);clear hb hkp d1)));go_ret;(exact⟨Yl,Ya⟩)
def Qbj.f (k:Nat) (b:Int) (d:List Int):Option (ByteArray):=(Qcj.f b).bind fun a=>(if a.size+1≤9223372036854775807 then((Qau.f k b d).bind fun e=>((Qbd.f k e (⟨#[45]⟩:ByteArray)).bind fun c=>(if(a++(⟨#[58]⟩:ByteArray)).size+c.size≤9223372036854775807 then(some ((a++(⟨#[58]⟩:ByteArray))++c))else(none))))else(none))
def Qbj.T1:Bool × List (List Nat × List Nat):=(true,[([],[]),([0],[0]),([1],[1]),([2],[2]),([],[]),([4,2],[4]),([5,5],[5]),([3,6],[3,6]),([7,6,0,1,2,3,4,5,6,7],[7])])
def Qbj.B1:List Nat:=[0,1,3,7,0,23,55,127,255]
theorem Qbj.tab1:rtab .any (opsOf Tryz.f44 1)=Qbj.T1:=by kernel_rfl
theorem Qbj.bits1:waitsOk Qbj.T1.2 Qbj.B1=true:=by kernel_rfl
set_option maxHeartbeats 8000000 in
set_option maxRecDepth 100000 in
theorem Qbj.calls (k:Nat) (b:Int) (j:Option Addr) (l:Nat) (c:List Int) (r:ByteArray) (w:World) (q:Kd.C (Kd.int .i64) w j c.length c) (p:c.length≤l) (hT:TabW w) (h:Qbj.f k b c=some r) :
    Calls Tryz.prog 44 #[.agg #[.int .i64 b,.slice j c.length l]] w fun e w'=>e=.returned (.string r)∧Below w.heap.size w w':=by
  (have b4:=Tryz.underlying26);have HT:=Am hT;clear hT;have v:=Am q;have t:=Am p;clear q p;have HB:=Am (Below.refl w.heap.size w);(have H:((Qcj.f b).bind fun d=>(if d.size+1≤9223372036854775807 then((Qau.f k b c).bind fun m=>((Qbd.f k m (⟨#[45]⟩:ByteArray)).bind fun g=>(if(d++(⟨#[58]⟩:ByteArray)).size+g.size≤9223372036854775807 then(some ((d++(⟨#[58]⟩:ByteArray))++g))else(none))))else(none)))=some r:=h);clear h;replace H:=Yq H;obtain⟨d,A2,H⟩:=H;replace H:=Yn H;obtain⟨c3,H⟩:=H;have a8:=eq_true c3;have a9:decide (d.size+1≤9223372036854775807)=true:=decide_eq_true c3;(try have b0:(9223372036854775807<d.size+1)=False:=eq_false (Nat.not_lt.2 c3));replace H:=Yq H;obtain⟨m,A4,H⟩:=H;replace H:=Yq H;obtain⟨g,A5,H⟩:=H;replace H:=Yn H;obtain⟨c6,H⟩:=H;have b1:=eq_true c6;(have b2:decide ((d++(⟨#[58]⟩:ByteArray)).size+g.size≤9223372036854775807)=true:=decide_eq_true c6);(try have a1:(9223372036854775807<(d++(⟨#[58]⟩:ByteArray)).size+g.size)=False:=eq_false (Nat.not_lt.2 c6));(try have b3:(9223372036854775807<d.size+1+g.size)=False:=by have e_:=a1;simp only[ByteArray.size_append]at e_;exact e_);obtain rfl:=Option.some.inj H;(go_enter Tryz.func44,Tryz.ntmps44);(try go_wp2_with(first|(refine Y4 1 #[.int .i64 b,.slice j c.length l] 26 ?_;intro o hg w7 hbox hb;have a:=Am (hbox);have a7:=Yge HB hg;have a6:=Yge HB hg;replace HB:=Zs hb;clear hb hbox hg)));replace a:=Am (blk_drew a.out);replace HB:=Am (below_drew1 HB.out);(refine start_ (n:=9) (S:=fun w'=>w'.cell? ⟨o,0,none⟩=some (.int .i64 b)∧w'.cell? ⟨o,1,none⟩=some (.slice j c.length l)) (ds:=[]) #[false,false,false,false,false,false,false,false,false] (by kernel_rfl) rfl rfl ⟨(blk_cell a.out 0).trans rfl,(blk_cell a.out 1).trans rfl⟩ (fun hHeld=>?_);refine with_tabW Qbj.tab1 Qbj.bits1 (fun HT_ HW_=>?_));(generalize w7.drew=w8 at a HB hHeld ⊢);(refine Y6 0 (some 3) HT_ ?_);(refine Y7 1 (some 4) HT_ HW_ hHeld ?_);(refine Y7 4 (some 7) HT_ HW_ hHeld ?_);(refine Y8 2 (some 5) HT_ (fun K hK=>?_));(refine goes_ Tryz.func71 (by kernel_rfl) rfl #[.int .i64 b] (by rfl) rfl rfl Yj ?_);(with_reducible refine(Qcj.calls b d _ A2.out).mono ?_);rintro e w' ⟨rfl,⟨nd,rfl⟩⟩;(refine⟨_,rfl,?_⟩);(refine hK.out _ _ ⟨(blk_cell a.out 0).trans rfl,(blk_cell a.out 1).trans rfl⟩ (fun hHeld=>?_));clear hK K;(refine Ynorm (some 5) ?_);(refine Y6 3 (some 6) HT_ ?_);(refine Y8 5 (some 8) HT_ (fun K hK=>?_));(refine goes_ Tryz.func42 (by kernel_rfl) rfl #[.agg #[.int .i64 b,.slice j c.length l]] (by rfl) rfl rfl Yj ?_);(with_reducible refine(Qau.calls k b _ _ c m _ ?side1 ?side2 ?side3 A4.out).mono ?_);(case side1=>exact Yg (Kd.C_below v.out (Ya)));(case side2=>exact t.out);(case side3=>exact TabW.below HT.out (Ya));rintro e w9 ⟨b5,rfl,z,hb⟩;(refine⟨_,rfl,?_⟩);(have i:=Am (Kd.S_lower z (below_size (Ya))));replace a:=Zb a hb;replace HB:=Zs hb;clear hb z;obtain⟨a0,a2,s⟩:=Kd.S_slice i.out;(first|subst s|(injection s with x a3 y;have a4:=x.symm;have a5:=y.symm;clear x a3 y;subst a4;subst a5));(refine hK.out _ _ ⟨(blk_cell a.out 0).trans rfl,(blk_cell a.out 1).trans rfl⟩ (fun hHeld=>?_));clear hK K;(refine Ynorm (some 8) ?_);(refine Y8 6 (some 9) HT_ (fun K hK=>?_));(refine goes_ Tryz.func72 (by kernel_rfl) rfl #[.slice a0 m.length a2,.string (⟨#[45]⟩:ByteArray)] (by rfl) rfl rfl Yj ?_);(with_reducible refine(Qbd.calls k _ _ m (⟨#[45]⟩:ByteArray) g _ ?side1 ?side2 A5.out).mono ?_);(case side1=>exact Yg ((Kd.S_reads' i.out).2.2));(case side2=>exact(Kd.S_reads' i.out).2.1);rintro e b6 ⟨rfl,hb⟩;(refine⟨_,rfl,?_⟩);replace i:=Am (Kd.S_below (YcS i) hb);replace a:=Zb a hb;replace HB:=Zs hb;clear hb;(refine hK.out _ _ ⟨(blk_cell a.out 0).trans rfl,(blk_cell a.out 1).trans rfl⟩ (fun hHeld=>?_));clear hK K;(refine Ynorm (some 9) ?_);(refine Y6 7 (some 10) HT_ ?_);(refine Y6 8 (some 2) HT_ ?_);(refine done_ (done_of HT_.out (by kernel_rfl)) ?_);(try go_wp2);go_ret;(exact⟨Yl,Ya⟩)
def Qcq.f (k:Nat) (a:Int) (b:List Int):Option (ByteArray × Int):=(Qae.f k a b).bind fun c=>(if c=true then((Qbj.f k a b).bind fun d=>(some (d,0)))else(some ((⟨#[]⟩:ByteArray),1)))
set_option maxHeartbeats 8000000 in
set_option maxRecDepth 100000 in
theorem Qcq.calls (k:Nat) (b:Int) (d:Option Addr) (g:Nat) (a:List Int) (r1:ByteArray) (r2:Int) (w:World) (o:Kd.C (Kd.int .i64) w d a.length a) (n:a.length≤g) (hT:TabW w) (h:Qcq.f k b a=some (r1,r2)) :
    Calls Tryz.prog 14 #[.agg #[.int .i64 b,.slice d a.length g]] w fun e w'=>e=.returned (.tuple #[.string r1,.int .i64 r2])∧Below w.heap.size w w':=by
  (have a6:=Tryz.underlying26);have HT:=Am hT;clear hT;have j:=Am o;have i:=Am n;clear o n;have HB:=Am (Below.refl w.heap.size w);(have H:((Qae.f k b a).bind fun l=>(if l=true then((Qbj.f k b a).bind fun m=>(some (m,0)))else(some ((⟨#[]⟩:ByteArray),1))))=some (r1,r2):=h);clear h;replace H:=Yq H;obtain⟨l,A2,H⟩:=H;(by_cases c3:l=true);(· subst c3;replace H:=Ybt H;replace H:=Yq H;obtain⟨m,A4,H⟩:=H;simp only[Option.some.injEq,Prod.mk.injEq]at H;obtain⟨rfl,rfl⟩:=H;(go_enter Tryz.func14,Tryz.ntmps14);(go_wp2_with(first|(refine Y4 1 #[.int .i64 b,.slice d a.length g] 26 ?_;intro r hg w5 hbox hb;have c:=Am (hbox);have q:=Yge HB hg;have p:=Yge HB hg;replace HB:=Zs hb;clear hb hbox hg;obtain⟨y,z,a2,a3⟩:=Y2 c)|(refine Y5 9 (some 5) Tryz.func9 #[.agg #[.int .i64 b,.slice d a.length g]] ?_;(with_reducible refine(Qae.calls k b _ _ a true _ ?side1 ?side2 A2.out).mono ?_);(case side1=>exact Yg (Kd.C_below j.out HB.out));(case side2=>exact i.out);rintro e w7 ⟨rfl,hb⟩;refine⟨_,rfl,?_⟩;replace c:=Zb c hb;replace HB:=Zs hb;clear hb;obtain⟨a0,a1,a4,a5⟩:=Y2 c)|(refine Y5 44 (some 8) Tryz.func44 #[.agg #[.int .i64 b,.slice d a.length g]] ?_;(with_reducible refine(Qbj.calls k b _ _ a m _ ?side1 ?side2 ?side3 A4.out).mono ?_);(case side1=>exact Yg (Kd.C_below j.out HB.out));(case side2=>exact i.out);(case side3=>exact TabW.below HT.out (Ya));rintro e w9 ⟨rfl,hb⟩;refine⟨_,rfl,?_⟩;replace HB:=Zs hb;clear hb)));(go_ret2);(exact⟨Yl,Ya⟩))
  · replace c3:=Bool.eq_false_iff.mpr c3
    subst c3;replace H:=Ybf H;simp only[Option.some.injEq,Prod.mk.injEq]at H;obtain⟨rfl,rfl⟩:=H;(go_enter Tryz.func14,Tryz.ntmps14);(go_wp2_with(first|(refine Y4 1 #[.int .i64 b,.slice d a.length g] 26 ?_;intro r hg a7 hbox hb;have c:=Am (hbox);have q:=Yge HB hg;have p:=Yge HB hg;replace HB:=Zs hb;clear hb hbox hg;obtain⟨s,t,v,x⟩:=Y2 c)|(refine Y5 9 (some 5) Tryz.func9 #[.agg #[.int .i64 b,.slice d a.length g]] ?_;(with_reducible refine(Qae.calls k b _ _ a false _ ?side1 ?side2 A2.out).mono ?_);(case side1=>exact Yg (Kd.C_below j.out HB.out));(case side2=>exact i.out);rintro e a8 ⟨rfl,hb⟩;refine⟨_,rfl,?_⟩;replace HB:=Zs hb;clear hb)));(go_ret2);(exact⟨Yl,Ya⟩)
def stringslite_Index.ren:Go.Shelf.Ren:=⟨fun|219=>93|217=>103|225=>104|224=>105|267=>106|266=>116|314=>117|n=>n,fun|9=>9|3=>3|4=>4|5=>5|46=>90|146=>126|51=>125|n=>n,fun|1=>1|n=>n⟩
theorem stringslite_Index.laid:Go.Proofs.Lays.n219 Tryz.prog stringslite_Index.ren:={
  mixed:=by kernel_rfl
  f217:=Tryz.func103.trans (congrArg some (by kernel_rfl))
  f219:=Tryz.func93.trans (congrArg some (by kernel_rfl))
  f224:=Tryz.func105.trans (congrArg some (by kernel_rfl))
  f225:=Tryz.func104.trans (congrArg some (by kernel_rfl))
  f266:=Tryz.func116.trans (congrArg some (by kernel_rfl))
  f267:=Tryz.func106.trans (congrArg some (by kernel_rfl))
  f314:=Tryz.func117.trans (congrArg some (by kernel_rfl))
  t3:=Tryz.underlying3
  a3:=Tryz.isAgg3
  z3:=Tryz.sizeOf3
  v3:=Tryz.zeroValue3
  t4:=Tryz.underlying4
  a4:=Tryz.isAgg4
  z4:=Tryz.sizeOf4
  v4:=Tryz.zeroValue4
  t5:=Tryz.underlying5
  a5:=Tryz.isAgg5
  z5:=Tryz.sizeOf5
  v5:=Tryz.zeroValue5
  t9:=Tryz.underlying9
  a9:=Tryz.isAgg9
  z9:=Tryz.sizeOf9
  v9:=Tryz.zeroValue9
  t46:=Tryz.underlying90
  a46:=Tryz.isAgg90
  z46:=Tryz.sizeOf90
  v46:=Tryz.zeroValue90
  t51:=Tryz.underlying125
  a51:=Tryz.isAgg125
  z51:=Tryz.sizeOf125
  v51:=Tryz.zeroValue125
  t146:=Tryz.underlying126
  a146:=Tryz.isAgg126
  z146:=Tryz.sizeOf126
  v146:=Tryz.zeroValue126
  g1:=by kernel_rfl}
def stringslite_Index.f (a0 a1:ByteArray):Option Int:=match a1 with
  |⟨⟨[c]⟩⟩=>some (Lib.indexByte a0.data.toList c)
  |_=>none
theorem stringslite_Index.calls (a0:ByteArray) (a1:ByteArray) (r:Int) (w:World) (h:stringslite_Index.f a0 a1=some r) :
    Calls Tryz.prog 93 #[.string a0,.string a1] w fun e w'=>e=.returned (.int .i64 r)∧Drawn0 w w':=by
  unfold stringslite_Index.f at h
  split at h
  case h_2=>cases h
  case h_1 c=>
  obtain rfl:=Option.some.inj h
  have hcon:=Any.stringslite_Index_one stringslite_Index.laid a0 c w
  change Calls Tryz.prog 93 _ _ _ at hcon
  refine hcon.mono ?_
  rintro e w' ⟨rfl,rfl⟩
  exact⟨rfl,Drawn0.refl _⟩
def stringslite_Cut.f (a0:ByteArray) (a1:ByteArray):Option (ByteArray × ByteArray × Bool):=(stringslite_Index.f a0 a1).bind fun a=>(if a≥0 then(if 0≤a then(if a≤(a0.size:Int)then(if 0≤(wrap64 (a+(a1.size:Int)))then(if(wrap64 (a+(a1.size:Int)))≤(a0.size:Int)then(some (a0.extract 0 (a:Int).toNat,a0.extract ((wrap64 (a+(a1.size:Int))):Int).toNat a0.size,true))else(none))else(none))else(none))else(none))else(some (a0,(⟨#[]⟩:ByteArray),false)))
set_option maxHeartbeats 8000000 in
set_option maxRecDepth 100000 in
theorem stringslite_Cut.calls (a0:ByteArray) (a1:ByteArray) (r1:ByteArray) (r2:ByteArray) (r3:Bool) (w:World) (h:stringslite_Cut.f a0 a1=some (r1,r2,r3)) :
    Calls Tryz.prog 73 #[.string a0,.string a1] w fun e w'=>e=.returned (.tuple #[.string r1,.string r2,.bool r3])∧Drawn0 w w':=by
  (have H:((stringslite_Index.f a0 a1).bind fun a=>(if a≥0 then(if 0≤a then(if a≤(a0.size:Int)then(if 0≤(wrap64 (a+(a1.size:Int)))then(if(wrap64 (a+(a1.size:Int)))≤(a0.size:Int)then(some (a0.extract 0 (a:Int).toNat,a0.extract ((wrap64 (a+(a1.size:Int))):Int).toNat a0.size,true))else(none))else(none))else(none))else(none))else(some (a0,(⟨#[]⟩:ByteArray),false))))=some (r1,r2,r3):=h);clear h;replace H:=Yq H;obtain⟨a,A3,H⟩:=H;replace H:=Yp H;(obtain⟨c4,H⟩|⟨c4,H⟩:=H);(· (have c:=decide_eq_true c4);clear c4;replace H:=En H;obtain⟨i,j,H⟩:=H;replace H:=En H;obtain⟨k,l,H⟩:=H;(obtain⟨d,b⟩:=Yt (wrap64 (a+(a1.size:Int))));(try simp only[b]at H A3);(have g:(IntKind.i64.wrap (a+(a1.size:Int)))=d:=(i64_w _).trans b);replace H:=En H;obtain⟨m,n,H⟩:=H;replace H:=En H;obtain⟨o,p,H⟩:=H;simp only[Option.some.injEq,Prod.mk.injEq]at H;obtain⟨rfl,rfl,rfl⟩:=H;(go_enter Tryz.func73,Tryz.ntmps73);(go_wp2_with(first|(go_at_call 93;(with_reducible refine(stringslite_Index.calls a0 a1 a _ A3.out).mono ?_);rintro e w' ⟨rfl,⟨nd,rfl⟩⟩;(try first|exact⟨rfl,_,World.drewN_drewN _ _ _⟩|exact⟨rfl,_,Eq.trans (World.drewN_drewN _ _ _) (congrArg (World.drewN _) (Nat.add_assoc _ _ _))⟩))));(repeat(go_quiet(first|(go_at_call 93;(with_reducible refine(stringslite_Index.calls a0 a1 a _ A3.out).mono ?_);rintro e w' ⟨rfl,⟨nd,rfl⟩⟩;(try first|exact⟨rfl,_,World.drewN_drewN _ _ _⟩|exact⟨rfl,_,Eq.trans (World.drewN_drewN _ _ _) (congrArg (World.drewN _) (Nat.add_assoc _ _ _))⟩)));try go_wp2_with(first|(go_at_call 93;(with_reducible refine(stringslite_Index.calls a0 a1 a _ A3.out).mono ?_);rintro e w' ⟨rfl,⟨nd,rfl⟩⟩;(try first|exact⟨rfl,_,World.drewN_drewN _ _ _⟩|exact⟨rfl,_,Eq.trans (World.drewN_drewN _ _ _) (congrArg (World.drewN _) (Nat.add_assoc _ _ _))⟩)))));(go_ret3);(exact⟨by first|rfl|(simp;done)|(simp only[← b]<;>(first|rfl|simp))|(simp[*];done),by repeat(first|exact Drawn0.refl _|apply Drawn0.step)⟩))
  · have c:=decide_eq_false c4
    clear c4;simp only[Option.some.injEq,Prod.mk.injEq]at H;obtain⟨rfl,rfl,rfl⟩:=H;(go_enter Tryz.func73,Tryz.ntmps73);(go_wp2_with(first|(go_at_call 93;(with_reducible refine(stringslite_Index.calls a0 a1 a _ A3.out).mono ?_);rintro e w' ⟨rfl,⟨nd,rfl⟩⟩;(try first|exact⟨rfl,_,World.drewN_drewN _ _ _⟩|exact⟨rfl,_,Eq.trans (World.drewN_drewN _ _ _) (congrArg (World.drewN _) (Nat.add_assoc _ _ _))⟩))));(repeat(go_quiet(first|(go_at_call 93;(with_reducible refine(stringslite_Index.calls a0 a1 a _ A3.out).mono ?_);rintro e w' ⟨rfl,⟨nd,rfl⟩⟩;(try first|exact⟨rfl,_,World.drewN_drewN _ _ _⟩|exact⟨rfl,_,Eq.trans (World.drewN_drewN _ _ _) (congrArg (World.drewN _) (Nat.add_assoc _ _ _))⟩)));try go_wp2_with(first|(go_at_call 93;(with_reducible refine(stringslite_Index.calls a0 a1 a _ A3.out).mono ?_);rintro e w' ⟨rfl,⟨nd,rfl⟩⟩;(try first|exact⟨rfl,_,World.drewN_drewN _ _ _⟩|exact⟨rfl,_,Eq.trans (World.drewN_drewN _ _ _) (congrArg (World.drewN _) (Nat.add_assoc _ _ _))⟩)))));(go_ret3);(exact⟨by first|rfl|(simp;done)|(simp[*];done),by repeat(first|exact Drawn0.refl _|apply Drawn0.step)⟩)
def Qcf.f (a0:ByteArray) (a1:ByteArray):Option (ByteArray × ByteArray × Bool):=(stringslite_Cut.f a0 a1).bind fun a=>(some (a.1,a.2.1,a.2.2))
set_option maxHeartbeats 8000000 in
set_option maxRecDepth 100000 in
theorem Qcf.calls (a0:ByteArray) (a1:ByteArray) (r1:ByteArray) (r2:ByteArray) (r3:Bool) (w:World) (h:Qcf.f a0 a1=some (r1,r2,r3)) :
    Calls Tryz.prog 45 #[.string a0,.string a1] w fun e w'=>e=.returned (.tuple #[.string r1,.string r2,.bool r3])∧Drawn0 w w':=by
  (have H:((stringslite_Cut.f a0 a1).bind fun a=>(some (a.1,a.2.1,a.2.2)))=some (r1,r2,r3):=h);clear h;replace H:=Yq H;obtain⟨⟨b,c,d⟩,A3,H⟩:=H;(try dsimp only at H);simp only[Option.some.injEq,Prod.mk.injEq]at H;obtain⟨rfl,rfl,rfl⟩:=H;(go_enter Tryz.func45,Tryz.ntmps45);(go_wp2_with(first|(refine Y5 73 (some 9) Tryz.func73 #[.string a0,.string a1] ?_;(with_reducible refine(stringslite_Cut.calls a0 a1 b c d _ A3.out).mono ?_);rintro e w' ⟨rfl,⟨nd,rfl⟩⟩;refine⟨_,rfl,?_⟩)));(go_ret3);(exact⟨by first|rfl|(simp;done)|(simp[*];done),by repeat(first|exact Drawn0.refl _|apply Drawn0.step)⟩)
mutual
def Qav.j0:Nat→ByteArray→Bool→Option (Int × Bool)
  |0,_,_=>none
  |k+1,x0,a=>if a=true then(some (0,false))else(Qav.l0 k x0 0 (x0.size:Int) 0)
def Qav.l0:Nat→ByteArray→Int→Int→Int→Option (Int × Bool)
  |0,_,_,_,_=>none
  |k+1,x0,x4,b,a=>if a<b then(if 0≤a then(if a<(x0.size:Int)then(if(bt x0 a)<48 then(some (0,false))else(if(bt x0 a)>57 then(some (0,false))else(Qav.l0 k x0 (wrap64 ((wrap64 (x4*10))+(((bt x0 a)-48) % 256))) b (wrap64 (a+1)))))else(none))else(none))else(some (x4,true))
end
def Qav.f (k:Nat) (a0:ByteArray):Option (Int × Bool):=if a0.toList=([]:List UInt8)then(Qav.j0 k a0 true)else(if(a0.size:Int)>9 then(Qav.j0 k a0 true)else(if 0<(a0.size:Int)then(if(bt a0 0)=48 then(Qav.j0 k a0 (decide ((a0.size:Int)>1)))else(Qav.j0 k a0 false))else(none)))
set_option maxHeartbeats 8000000 in
set_option maxRecDepth 100000 in
theorem Qav.calls (k:Nat) (a0:ByteArray) (r1:Int) (r2:Bool) (w:World) (h:Qav.f k a0=some (r1,r2)) :
    Calls Tryz.prog 46 #[.string a0] w fun e w'=>e=.returned (.tuple #[.int .i64 r1,.bool r2])∧Drawn0 w w':=by
  (have H:(if a0.toList=([]:List UInt8)then(Qav.j0 k a0 true)else(if(a0.size:Int)>9 then(Qav.j0 k a0 true)else(if 0<(a0.size:Int)then(if(bt a0 0)=48 then(Qav.j0 k a0 (decide ((a0.size:Int)>1)))else(Qav.j0 k a0 false))else(none))))=some (r1,r2):=h);clear h;have o:=Am H;clear H;(go_enter Tryz.func46,Tryz.ntmps46);(go_upto_region 1 with(fail));(go_cut[22] (fun a9 wc=>∃(kq:Nat) (d:Bool),a9=.bool d∧Aside0 (Qav.j0 kq a0 d=some (r1,r2))∧Aside0 (kq≤k)∧Drawn0 w wc))
  case first=>
    (have H:=o.out);clear o;replace H:=Yp H;(obtain⟨c3,H⟩|⟨c3,H⟩:=H);(· (obtain⟨g,z⟩:=Yv c3);clear c3;(first|rw[g]|(simp only[i64_w,i32_w];rw[g])|skip);have H':=Am H;clear H;go_wp2;(go_meet);(case rel=>exact⟨_,(true),Yk,H',⟨by first|omega|exact Nat.le_refl _⟩,by repeat(first|exact Drawn0.refl _|apply Drawn0.step)⟩));(· (obtain⟨g,z⟩:=Yw c3);(first|rw[g]|(simp only[i64_w,i32_w];rw[g])|skip);replace H:=Yp H;(obtain⟨c4,H⟩|⟨c4,H⟩:=H);(· (have a1:=decide_eq_true c4);(have a2:decide (9<a0.size)=true:=decide_eq_true (by omega));clear c4;have H':=Am H;clear H;go_wp2;(go_meet);(case rel=>exact⟨_,(true),Yk,H',⟨by first|omega|exact Nat.le_refl _⟩,by repeat(first|exact Drawn0.refl _|apply Drawn0.step)⟩));(· (have a1:=decide_eq_false c4);(have a2:decide (9<a0.size)=false:=decide_eq_false (by omega));clear c4;replace H:=Yn H;obtain⟨c5,H⟩:=H;have b3:decide (0<(a0.size:Int))=true:=decide_eq_true c5;(have b4:decide (0<a0.size)=true:=decide_eq_true (by omega));clear c5;replace H:=Yp H;(obtain⟨c7,H⟩|⟨c7,H⟩:=H);(· (obtain⟨a3,a4⟩:=Yv c7);clear c7;have H':=Am H;clear H;(have p6:0≤(0:Int):=(by omega));(have q6:0<a0.size:=(by have:(0:Int)<(a0.size:Int):=Ym;omega));have a7:∀h:0<a0.size,((a0[0]'h).toNat:Int)=bt a0 0:=bt_at a0 0;clear p6;have a8:(0<(a0.size:Int))=True:=eq_true (Ym);replace q6:=eq_true q6;go_wp2;(go_meet);(case rel=>exact⟨_,(decide ((a0.size:Int)>1)),Yk,H',⟨by first|omega|exact Nat.le_refl _⟩,by repeat(first|exact Drawn0.refl _|apply Drawn0.step)⟩));(· (obtain⟨a3,a4⟩:=Yw c7);have H':=Am H;clear H;(have p6:0≤(0:Int):=(by omega));(have q6:0<a0.size:=(by have:(0:Int)<(a0.size:Int):=Ym;omega));have a7:∀h:0<a0.size,((a0[0]'h).toNat:Int)=bt a0 0:=bt_at a0 0;clear p6;have a8:(0<(a0.size:Int))=True:=eq_true (Ym);replace q6:=eq_true q6;go_wp2;(go_meet);(case rel=>exact⟨_,(false),Yk,H',⟨by first|omega|exact Nat.le_refl _⟩,by repeat(first|exact Drawn0.refl _|apply Drawn0.step)⟩))))
  case rest=>
    clear o;(obtain⟨kq,d,rfl,HA,s,⟨b6,rfl⟩⟩:=hcut)
    cases kq with
    |zero=>exact absurd HA.out (by simp[Qav.j0])
    |succ v=>
      (have H:=HA.out);clear HA;simp only[Qav.j0]at H;(by_cases c8:d=true);(· subst c8;replace H:=Ybt H;simp only[Option.some.injEq,Prod.mk.injEq]at H;obtain⟨rfl,rfl⟩:=H;go_wp2;(go_ret2);(exact⟨by first|rfl|(simp;done)|(simp[*];done),by repeat(first|exact Drawn0.refl _|apply Drawn0.step)⟩))
      · replace c8:=Bool.eq_false_iff.mpr c8
        subst c8;replace H:=Ybf H;have H':=Am H;clear H;go_wp2;(go_loopg[4,25] v (fun kq v4 b0 w'=>∃(i:Int) (a:Int),v4=.int .i64 i∧b0=.int .i64 a∧Aside0 (Qav.l0 kq a0 i (a0.size:Int) a=some (r1,r2))∧Aside0 (kq≤v)∧Drawn0 w w'));(case atStart=>exact⟨(0),(0),Yk,Yk,H',⟨Nat.le_refl _⟩,by repeat(first|exact Drawn0.refl _|apply Drawn0.step)⟩)
        case round=>
          (clear H');(try clear c8);(obtain⟨i,a,rfl,rfl,HA,t,⟨m2,rfl⟩⟩:=hrel)
          cases gk with
          |zero=>exact absurd HA.out (by simp[Qav.l0])
          |succ k2=>
            (have H:=HA.out);clear HA;simp only[Qav.l0]at H;replace H:=Yp H;(obtain⟨c9,H⟩|⟨c9,H⟩:=H);(· (have a5:=decide_eq_true c9);clear c9;replace H:=Dn2 H;obtain⟨b1,b2,H⟩:=H;replace H:=Yp H;(obtain⟨j,H⟩|⟨j,H⟩:=H);(· (have q:=decide_eq_true j);clear j;simp only[Option.some.injEq,Prod.mk.injEq]at H;obtain⟨rfl,rfl⟩:=H;have b:0≤(a:Int):=Ym;have c:a<(a0.size:Int):=Ym;have p:=bt_at a0 a;replace b:=eq_true b;replace c:=eq_true c;go_wp2;(go_ret2);(exact⟨by first|rfl|(simp;done)|(simp[*];done),by repeat(first|exact Drawn0.refl _|apply Drawn0.step)⟩));(· (have q:=decide_eq_false j);clear j;replace H:=Yp H;(obtain⟨l,H⟩|⟨l,H⟩:=H);(· (have r:=decide_eq_true l);clear l;simp only[Option.some.injEq,Prod.mk.injEq]at H;obtain⟨rfl,rfl⟩:=H;have b:0≤(a:Int):=Ym;have c:a<(a0.size:Int):=Ym;have p:=bt_at a0 a;replace b:=eq_true b;replace c:=eq_true c;have m:0≤(a:Int):=Ym;have n:a<(a0.size:Int):=Ym;have a6:=bt_at a0 a;replace m:=eq_true m;replace n:=eq_true n;go_wp2;(go_ret2);(exact⟨by first|rfl|(simp;done)|(simp[*];done),by repeat(first|exact Drawn0.refl _|apply Drawn0.step)⟩));(· (have r:=decide_eq_false l);clear l;have H':=Am H;clear H;have b:0≤(a:Int):=Ym;have c:a<(a0.size:Int):=Ym;have p:=bt_at a0 a;replace b:=eq_true b;replace c:=eq_true c;have m:0≤(a:Int):=Ym;have n:a<(a0.size:Int):=Ym;have a6:=bt_at a0 a;replace m:=eq_true m;replace n:=eq_true n;have x:0≤(a:Int):=Ym;have y:a<(a0.size:Int):=Ym;have b5:=bt_at a0 a;replace x:=eq_true x;replace y:=eq_true y;go_wp2;(go_roundg k2);(case measure=>have:=s.out;have:=t.out;omega);(case rel=>exact⟨(wrap64 ((wrap64 (i*10))+(((bt a0 a)-48) % 256))),(wrap64 (a+1)),Yk,Yk,H',⟨by have:=s.out;have:=t.out;omega⟩,by repeat(first|exact Drawn0.refl _|apply Drawn0.step)⟩))))
            · have a5:=decide_eq_false c9
              clear c9;simp only[Option.some.injEq,Prod.mk.injEq]at H;obtain⟨rfl,rfl⟩:=H;go_wp2;(go_ret2);(exact⟨by first|rfl|(simp;done)|(simp[*];done),by repeat(first|exact Drawn0.refl _|apply Drawn0.step)⟩)
def Qct.f (_:ByteArray) (_:Int):Option (List ByteArray):=none
theorem Qct.calls (a0:ByteArray) (a1:Int) (r:List ByteArray) (w:World) (h:Qct.f a0 a1=some r) :
    Calls Tryz.prog 94 #[.string a0,.int .i64 a1] w fun e w'=>∃a:Value,e=.returned (a)∧Kd.R Kd.string 9 w' w.heap.size (fun _=>True) a r∧Below w.heap.size w w':=by
  cases h
def Qdd.f (a0:ByteArray) (a1:ByteArray):Option (Int):=(stringslite_Index.f a0 a1).bind fun a=>(some a)
set_option maxHeartbeats 8000000 in
set_option maxRecDepth 100000 in
theorem Qdd.calls (a0:ByteArray) (a1:ByteArray) (r:Int) (w:World) (h:Qdd.f a0 a1=some r) :
    Calls Tryz.prog 96 #[.string a0,.string a1] w fun e w'=>e=.returned (.int .i64 r)∧Drawn0 w w':=by
  (have H:((stringslite_Index.f a0 a1).bind fun a=>(some a))=some r:=h);clear h;replace H:=Yq H;obtain⟨a,A3,H⟩:=H;obtain rfl:=Option.some.inj H;(go_enter Tryz.func96,Tryz.ntmps96);(go_wp2_with(first|(refine Y5 93 (some 7) Tryz.func93 #[.string a0,.string a1] ?_;(with_reducible refine(stringslite_Index.calls a0 a1 a _ A3.out).mono ?_);rintro e w' ⟨rfl,⟨nd,rfl⟩⟩;refine⟨_,rfl,?_⟩)));go_ret;(exact⟨by first|rfl|(simp;done)|(simp[*];done),by repeat(first|exact Drawn0.refl _|apply Drawn0.step)⟩)
def Qce.ren:Go.Shelf.Ren:=⟨fun|138=>95|195=>107|218=>109|143=>96|219=>93|217=>103|225=>104|224=>105|267=>106|266=>116|314=>117|n=>n,fun|9=>9|3=>3|4=>4|5=>5|0=>0|46=>90|146=>126|51=>125|n=>n,fun|1=>1|n=>n⟩
theorem Qce.laid:Go.Proofs.Lays.n138 Tryz.prog Qce.ren:={
  mixed:=by kernel_rfl
  f138:=Tryz.func95.trans (congrArg some (by kernel_rfl))
  f143:=Tryz.func96.trans (congrArg some (by kernel_rfl))
  f195:=Tryz.func107.trans (congrArg some (by kernel_rfl))
  f217:=Tryz.func103.trans (congrArg some (by kernel_rfl))
  f218:=Tryz.func109.trans (congrArg some (by kernel_rfl))
  f219:=Tryz.func93.trans (congrArg some (by kernel_rfl))
  f224:=Tryz.func105.trans (congrArg some (by kernel_rfl))
  f225:=Tryz.func104.trans (congrArg some (by kernel_rfl))
  f266:=Tryz.func116.trans (congrArg some (by kernel_rfl))
  f267:=Tryz.func106.trans (congrArg some (by kernel_rfl))
  f314:=Tryz.func117.trans (congrArg some (by kernel_rfl))
  t0:=Tryz.underlying0
  a0:=Tryz.isAgg0
  z0:=Tryz.sizeOf0
  v0:=Tryz.zeroValue0
  t3:=Tryz.underlying3
  a3:=Tryz.isAgg3
  z3:=Tryz.sizeOf3
  v3:=Tryz.zeroValue3
  t4:=Tryz.underlying4
  a4:=Tryz.isAgg4
  z4:=Tryz.sizeOf4
  v4:=Tryz.zeroValue4
  t5:=Tryz.underlying5
  a5:=Tryz.isAgg5
  z5:=Tryz.sizeOf5
  v5:=Tryz.zeroValue5
  t9:=Tryz.underlying9
  a9:=Tryz.isAgg9
  z9:=Tryz.sizeOf9
  v9:=Tryz.zeroValue9
  t46:=Tryz.underlying90
  a46:=Tryz.isAgg90
  z46:=Tryz.sizeOf90
  v46:=Tryz.zeroValue90
  t51:=Tryz.underlying125
  a51:=Tryz.isAgg125
  z51:=Tryz.sizeOf125
  v51:=Tryz.zeroValue125
  t146:=Tryz.underlying126
  a146:=Tryz.isAgg126
  z146:=Tryz.sizeOf126
  v146:=Tryz.zeroValue126
  g1:=by kernel_rfl}
def Qce.f (a0 a1:ByteArray):Option Int:=match a1 with
  |⟨⟨[c]⟩⟩=>some ((Lib.countByte a0.data.toList c:Nat):Int)
  |_=>none
theorem Qce.calls (a0:ByteArray) (a1:ByteArray) (r:Int) (w:World) (h:Qce.f a0 a1=some r) :
    Calls Tryz.prog 95 #[.string a0,.string a1] w fun e w'=>e=.returned (.int .i64 r)∧Drawn0 w w':=by
  unfold Qce.f at h
  split at h
  case h_2=>cases h
  case h_1 c=>
  obtain rfl:=Option.some.inj h
  have hcon:=Any.strings_Count_one Qce.laid a0 c w
  change Calls Tryz.prog 95 _ _ _ at hcon
  refine hcon.mono ?_
  rintro e w' ⟨rfl,rfl⟩
  exact⟨rfl,Drawn0.refl _⟩
end Go.Proofs.YtmofdldplbplbaaGreatDoor.P
