-- Printed by a program of this workplace (wip/xp/xp.py), joined by wip/bin/mergeP.
import Derived.Test.YtmofdldplbplbaaDoorMFWD0
import Derived.Test.YtmofdldplbplbaaDoorMFWD1
namespace Go.Proofs.YtmofdldplbplbaaDoor.P
open Go.RowKit Go.Proofs.YtmofdldplbplbaaDoorW.PrintWords Go.Proofs.YtmofdldplbplbaaDoorW.PrintLast Go.Proofs.YtmofdldplbplbaaDoorW.PrintMore
attribute [local go_sem] max2_int min2_int max_two min_two max_three min_three max_four min_four
set_option linter.unusedVariables false
set_option linter.unusedSimpArgs false
def slices_Repeat_int64_int64.f (l0:List Int) (a1:Int):Option (List Int):=if l0.length=1 then(if 0≤a1 then(if a1≤1000000 then some (List.replicate a1.toNat (rd l0 0))else none)else none)else none
theorem slices_Repeat_int64_int64.mul (c:Nat) (hc:c≤1000000):bits_Mul.f 1 (c:Int)=some (0,(c:Int)):=by
  have a1:bits .and .u64 (c:Int) 4294967295=(c:Int):=by
    rw[show(4294967295:Int)=((4294967295:Nat):Int) from rfl,bits_and_u64_nat c _ (by omega) (by decide)]
    have:=Nat.and_two_pow_sub_one_eq_mod c 32
    rw[show(2:Nat) ^ 32-1=4294967295 from rfl]at this
    rw[this]
    omega
  have a2:bits .and .u64 1 4294967295=1:=by decide
  have w0:∀z:Int,0≤z→z<18446744073709551616→IntKind.u64.wrap z=z:=fun z h0 h1=>by rw[IntKind.wrap_u64];omega
  have d1:(1:Int)/4294967296=0:=by decide
  have d2:(c:Int)/4294967296=0:=by omega
  have a3:bits .and .u64 0 4294967295=0:=by decide
  unfold bits_Mul.f bits_Mul64.f
  simp only[a1,a2,d1,d2,Int.zero_mul,Int.mul_zero,Int.one_mul,w0 0 (by decide) (by decide),w0 (c:Int) (by omega) (by omega),Int.zero_add,Int.add_zero,a3,Int.zero_ediv,Option.bind_some]
set_option maxHeartbeats 8000000 in
set_option maxRecDepth 100000 in
theorem slices_Repeat_int64_int64.calls (A0:Option Addr) (c0:Nat) (l0:List Int) (a1:Int) (r:List Int) (w:World) (hr0:Kd.C (Kd.int .i64) w A0 l0.length l0) (hc0:l0.length≤c0) (h:slices_Repeat_int64_int64.f l0 a1=some r) :
    Calls Tryd.prog 167 #[.slice A0 l0.length c0,.int .i64 a1] w fun e w'=>∃v0_:Value,e=.returned (v0_)∧Kd.R (Kd.int .i64) 2 w' w.heap.size (fun _=>True) v0_ r∧Below w.heap.size w w':=by
  unfold slices_Repeat_int64_int64.f at h
  split at h
  case isFalse=>cases h
  case isTrue hl=>
  split at h
  case isFalse=>cases h
  case isTrue h0=>
  split at h
  case isFalse=>cases h
  case isTrue h1=>
  obtain⟨c,rfl⟩:=Int.eq_ofNat_of_zero_le h0
  obtain rfl:=Option.some.inj h
  rw[Int.toNat_natCast]
  obtain⟨ad,ea,hcell⟩:=Kd.at_int hr0 0 (by omega) (by omega)
  cases ea
  have hc:c≤1000000:=by omega
  rw[show ad.add (0:Int).toNat=ad.add 0 from rfl]at hcell
  generalize rd l0 0=v at *
  clear h h0 h1 hr0
  rw[hl]
  rw[hl]at hc0
  have HC0:=Aside0.mk hc0
  clear hc0 hl
  have hmul:=slices_Repeat_int64_int64.mul c hc
  have hmk:=print_make (P:=Tryd.prog) 24 2 .i64 8 Tryd.underlying24 info2 (by decide) c (by omega)
  obtain⟨Z,hZ⟩:∃Z:List Value,madeCells #[.int .i64 0] c=Z.toArray∧Z.length=c:=⟨(madeCells #[.int .i64 0] c).toList,by simp,by simp[size_madeCells]⟩
  rw[hZ.1]at hmk
  have HZ:=Aside0.mk hZ.2
  have HMUL:=Aside0.mk hmul
  clear hZ hmul
  have cw:IntKind.u64.wrap (c:Int)=(c:Int):=by rw[IntKind.wrap_u64];omega
  have d9:decide (9223372036854775807<(c:Int))=false:=decide_eq_false (by omega)
  have c0':0≤(c:Int):=by omega
  have c1':(c:Int)≤1000000:=by omega
  go_enter Tryd.func167,Tryd.ntmps167
  obtain⟨X,hX⟩:∃X:List Value,X.length=Nat.min 1 c∧∀u ∈ X,u=.int .i64 v:=⟨if 0<c then[.int .i64 v]else[],by show _=min 1 c;split<;>simp<;>omega,by split<;>simp⟩
  have HX:=Aside0.mk hX
  clear hX
  have hu:=Tryd.underlying24
  have hsz:(Tryd.prog.info? 2).map (·.size)=some 1:=by kernel_rfl
  have HSZ:=Aside0.mk hsz
  clear hsz
  go_wp2_with fail
  refine(bits_Mul.calls 1 (c:Int) 0 (c:Int) _ HMUL.out).mono ?_
  rintro e w2 ⟨rfl,⟨nd,rfl⟩⟩
  go_wp2_with(refine wpList_copy_splice rfl (.tmp 31) (.tmp 32) 24 24 rfl 2 hu HSZ.out _ _ _ _ _ _ rfl rfl w.heap.size 0 Z 2 ?qg X HX.out.1 ?qp ?qf ?q1 w.heap.size w ?qb (Nat.le_refl _) ?_)
  case qp=>
    intro hpos
    intro j u hj
    have hjl:=(List.getElem?_eq_some_iff.1 hj).1
    have hx1:X.length=min 1 c:=HX.out.1
    have j0:j=0:=by omega
    subst j0
    have hu:=HX.out.2 u (List.mem_of_getElem? hj)
    rw[hu]
    have hlt:=World.block_lt_of_cell? w _ hcell
    exact(World.cell?_alloc_lt _ _ _ hlt).trans hcell
  case qf=>have e1:X.length=min 1 c:=HX.out.1;have:=HZ.out;omega
  case qg=>exact blk_new (w.drewN nd) (.cells Z.toArray 2)
  case q1=>intro u hu;rw[HX.out.2 u hu];rfl
  case qb=>exact⟨rfl,rfl,rfl,by simp,fun i hi=>by simp[World.alloc,Array.getElem?_push,Nat.ne_of_lt hi]⟩
  intro w3 hg3 hb3
  obtain⟨k0,hk0⟩:∃k0:Nat,X.length=k0:=⟨_,rfl⟩
  have hk1:k0=min 1 c:=hk0.symm.trans HX.out.1
  have hcur:∃cur:List Value,cur.length=c∧w3.heap[w.heap.size]? =some (.cells cur.toArray 2 (0,0))∧∀j,j<k0→cur[j]? =some (.int .i64 v):=by
    refine⟨splice Z 0 X,?_,hg3.out,?_⟩
    · rw[length_splice _ _ _ (by have:=HZ.out;omega)]
      exact HZ.out
    · intro j hj
      have hjx:j<X.length:=by omega
      simp only[splice,List.take_zero,List.nil_append]
      rw[List.getElem?_append_left hjx,List.getElem?_eq_getElem hjx,HX.out.2 _ (List.getElem_mem hjx)]
  rw[hk0]
  have HCUR:=Aside0.mk hcur
  have HB3:=Aside0.mk hb3
  have HK:=Aside0.mk hk1
  clear hg3 hb3 hcur hk0 hk1
  go_wp2
  go_loopg[8] c (fun gg s8 wr=>∃kk:Nat,kk≤c∧c-kk≤gg∧s8=.int .i64 kk∧Aside0 (0<c→0<kk)∧Aside0 (∃cur:List Value,cur.length=c∧wr.heap[w.heap.size]? =some (.cells cur.toArray 2 (0,0))∧∀j,j<kk→cur[j]? =some (.int .i64 v))∧Aside0 (Below w.heap.size w wr))
  case atStart=>exact⟨k0,by have:=HK.out;omega,by omega,rfl,⟨fun h=>by have:=HK.out;omega⟩,HCUR,HB3⟩
  case round=>
    clear HCUR HB3 HK
    obtain⟨kk,hkk,hg,rfl,HP,HC,HB⟩:=hrel
    by_cases hlt:kk<c
    · have hltz:(kk:Int)<(c:Int):=by omega
      have hkz:0≤(kk:Int):=by omega
      have hkl:(kk:Int)≤(c:Int):=by omega
      obtain⟨cur,hcl,hblk,hval⟩:=HC.out
      have HCL:=Aside0.mk hcl
      have HBLK:=Aside0.mk hblk
      have HVAL:=Aside0.mk hval
      clear hcl hblk hval HC
      obtain⟨Y,hY⟩:∃Y:List Value,Y.length=Nat.min kk (c-kk)∧∀u ∈ Y,u=.int .i64 v:=⟨List.replicate (min kk (c-kk)) (.int .i64 v),List.length_replicate,by simp⟩
      have HY:=Aside0.mk hY
      clear hY
      go_wp2
      have HBLK2:=Aside0.mk (blk_drew HBLK.out)
      have HB2:=Aside0.mk (below_drew HB.out)
      go_region_held3 (fun _=>True) (exact trivial) ((refine step_copy_splice rfl (.tmp 41) (.tmp 44) 24 24 rfl 2 hu HSZ.out _ _ _ _ _ _ rfl rfl w.heap.size kk cur 2 HBLK2.out Y HY.out.1 ?rp ?rf ?r1 w.heap.size w HB2.out (Nat.le_refl _) ?_;(case rf=>have e1:Y.length=min kk (c-kk):=HY.out.1;have:=HCL.out;omega);(case r1=>intro u hu;rw[HY.out.2 u hu];rfl);(case rp=>intro hpos;refine⟨if_neg (by omega),_,rfl,fun j u hj=>?_⟩;have hjl:=(List.getElem?_eq_some_iff.1 hj).1;have e1:Y.length=min kk (c-kk):=HY.out.1;rw[HY.out.2 u (List.mem_of_getElem? hj),add_plain];have hb:=blk_cell HBLK2.out j;rw[hb];have:=HVAL.out j (by omega);simpa using this);intro w4 hg4 hb4))
      have e1:Y.length=min kk (c-kk):=HY.out.1
      have hk0:=HP.out (by omega)
      have hw:IntKind.i64.wrap ((kk:Int)+(Y.length:Int))=((kk+Y.length:Nat):Int):=by rw[IntKind.wrap_i64];omega
      have hnew:∃cur:List Value,cur.length=c∧w4.heap[w.heap.size]? =some (.cells cur.toArray 2 (0,0))∧∀j,j<kk+Y.length→cur[j]? =some (.int .i64 v):=by
        refine⟨splice cur kk Y,?_,hg4.out,?_⟩
        · rw[length_splice _ _ _ (by have:=HCL.out;omega)]
          exact HCL.out
        · intro j hj
          have hcl:=HCL.out
          simp only[splice]
          by_cases h1:j<kk
          · rw[List.getElem?_append_left (by simp;omega),List.getElem?_take_of_lt h1]
            exact HVAL.out j h1
          · rw[List.getElem?_append_right (by simp;omega),List.getElem?_append_left (by simp;omega),List.getElem?_eq_getElem (by simp;omega),HY.out.2 _ (List.getElem_mem _)]
      have HNEW:=Aside0.mk hnew
      have HB4:=Aside0.mk hb4
      have E1:=Aside0.mk e1
      rw[hw]
      clear hnew hb4 hg4 hw e1
      go_wp2
      go_roundg(c-(kk+Y.length))
      case measure=>have:=E1.out;omega
      case rel=>exact⟨kk+Y.length,by have:=E1.out;omega,by omega,rfl,⟨fun _=>by omega⟩,HNEW,HB4⟩
    · have hltz:¬(kk:Int)<(c:Int):=by omega
      have hkc:kk=c:=by omega
      have HKC:=Aside0.mk hkc
      clear hkc
      go_wp2
      go_ret
      obtain⟨cur,hcl,hblk,hval⟩:=HC.out
      refine⟨_,rfl,?_,HB.out⟩
      have ecur:cur=encs (Value.int .i64) (List.replicate c v):=by
        refine List.ext_getElem? fun j=>?_
        by_cases hj:j<c
        · rw[hval j (by have:=HKC.out;omega)]
          simp[encs,hj]
        · rw[List.getElem?_eq_none (by omega),List.getElem?_eq_none (by simp[encs];omega)]
      refine Kd.R_of_own ⟨by simp[encs],.inr ⟨w.heap.size,c,cur.toArray,by simp,Nat.le_refl _,hblk,by simp,by unfold maxLen;omega,by simp[hcl],?_⟩⟩ (fun _ _=>trivial)
      show cur.toArray.toList.take ((List.replicate c v).length*1)=_
      rw[List.length_replicate,Nat.mul_one]
      refine Eq.trans ?_ ecur
      exact List.take_of_length_le (by simp;omega)
mutual
def impl_Graph_distances.l0:Nat→List Int→Int→Int→Int→Int→List Int→Option (List Int)
  |0,_,_,_,_,_,_=>none
  |k+1,x5,x6,x7,x8,x141000,x141001=>if x7=0 then(some x5)else((impl_list.f k x7).bind fun t147=>(impl_Graph_distances.l1 k x5 x6 x8 0 t147 (t147.length:Int) 0 x141000 x141001))
def impl_Graph_distances.l1:Nat→List Int→Int→Int→Int→List Int→Int→Int→Int→List Int→Option (List Int)
  |0,_,_,_,_,_,_,_,_,_=>none
  |k+1,x5,x6,x8,x9,x25,x26,x27,x141000,x141001=>if x27<x26 then(if 0≤x27 then(if x27<(x25.length:Int)then(if 0≤(rd x25 x27)then(if(rd x25 x27)<(x5.length:Int)then(if(rd x25 x27)<(x141001.length:Int)then(impl_Graph_distances.l1 k (x5.set ((rd x25 x27):Int).toNat x8) x6 x8 (Go.bits .or .i64 x9 (rd x141001 (rd x25 x27))) x25 x26 (wrap64 (x27+1)) x141000 x141001)else(none))else(none))else(none))else(none))else(none))else(impl_Graph_distances.l0 k x5 (Go.bits .or .i64 x6 x9) (Go.bits .andNot .i64 x9 x6) (wrap64 (x8+1)) x141000 x141001)
end
def impl_Graph_distances.f (k:Nat) (a0_0:Int) (l0_1:List Int) (a1:Int):Option (List Int):=(slices_Repeat_int64_int64.f (([(-1)]:List Int)) a0_0).bind fun t144=>(if 0≤a1 then(impl_Graph_distances.l0 k t144 (shl .i64 1 a1) (shl .i64 1 a1) 0 a0_0 l0_1)else(none))
set_option maxHeartbeats 8000000 in
set_option maxRecDepth 100000 in
theorem impl_Graph_distances.calls (k:Nat) (a0_0:Int) (A0_1:Option Addr) (c0_1:Nat) (l0_1:List Int) (a1:Int) (r:List Int) (w:World) (hr0_1:Kd.C (Kd.int .i64) w A0_1 l0_1.length l0_1) (hc0_1:l0_1.length≤c0_1) (hT:TabW w) (h:impl_Graph_distances.f k a0_0 l0_1 a1=some r) :
    Calls Tryd.prog 100 #[.agg #[.int .i64 a0_0,.slice A0_1 l0_1.length c0_1],.int .i64 a1] w fun e w'=>∃v0_:Value,e=.returned (v0_)∧Kd.R (Kd.int .i64) 2 w' w.heap.size (fun _=>True) v0_ r∧Below w.heap.size w w':=by
  (have hu26:=Tryd.underlying26);(have HT:=Aside0.mk hT);clear hT;(have HR0_1:=Aside0.mk hr0_1);(have HC0_1:=Aside0.mk hc0_1);clear hr0_1 hc0_1;(have HB:=Aside0.mk (Below.refl w.heap.size w));(have H:((slices_Repeat_int64_int64.f (([(-1)]:List Int)) a0_0).bind fun t144=>(if 0≤a1 then(impl_Graph_distances.l0 k t144 (shl .i64 1 a1) (shl .i64 1 a1) 0 a0_0 l0_1)else(none)))=some r:=h);clear h;(obtain⟨y141,Ny141⟩:=Ys (([(-1)]:List Int)));(rw[← Ny141.out]at H);(replace H:=Yq H);(obtain⟨t144,A3,H⟩:=H);(replace H:=En H);(obtain⟨c4b0,c4b1,H⟩:=H);(obtain⟨ji5,hji5⟩:=Yt (shl .i64 1 a1));(try simp only[hji5]at H A3);(obtain⟨hji5_,hji5z,hji5u,hji5v,hji5y,hji5x⟩:=Yu hji5);(have c6b0:=eq_true (Ym:0≤a1));(have H':=Aside0.mk H);clear H;(go_enter Tryd.func100,Tryd.ntmps100);(go_wp2_with(first|(refine Y4 2 #[.int .i64 a0_0,.slice A0_1 l0_1.length c0_1] 26 ?_;intro gb140 hg w8 hbox hb;have BK140:=Aside0.mk (hbox);have GW140:=Yge HB hg;have GE140:=Yge HB hg;replace HB:=Aside0.mk (below_step (Ya) hb);clear hb hbox hg)|((with_reducible refine gate_dst (N:=12) rfl ?_);refine Kd.R_lit (Kd.int .i64) _ 2 ?hg (N:=12) ?hd (xs:=([(-1)]:List Int)) (inner:=[.int .i64 (-1)]) (ok:=fun _=>True) (okp:=fun _=>True) ?hr ?hp (fun _ hk=>hk) trivial (Below.refl _ _) (Nat.le_refl _) (by simp) ?_;(case hd=>rfl);(case hg=>rfl);(case hr=>first|(go_simp;done)|(go_simp;rfl));(case hp=>exact(Reps.one (show Kd.M (Kd.int .i64) _ _ _ (-1) [.int .i64 (-1)] from rfl) (Reps.none _ _)));intro v142 w9 ho10 hb hg_ hnew_;clear hg_ hnew_;(first|rw[← Ny141.out]at ho10|(simp only[Int.reduceToNat]at ho10;rw[← Ny141.out]at ho10));have HO143:=Aside0.mk (Kd.R_lower ho10 (below_size (Ya)));replace BK140:=Aside0.mk (blk_below (Ye BK140) hb);replace HB:=Aside0.mk (below_step (Ya) hb);clear hb ho10;obtain⟨hcz11_0,hcz11_1,hfz11_0,hfz11_1⟩:=Y2 BK140;obtain⟨Ao12,co12,eo12⟩:=Kd.R_slice HO143.out;subst eo12)|(go_at_call 167;(with_reducible refine(slices_Repeat_int64_int64.calls _ _ y141 a0_0 t144 _ ?side1 ?side2 A3.out).mono ?_);(case side1=>exact Yg ((Kd.R_reads' HO143.out).2.2));(case side2=>exact(Kd.R_reads' HO143.out).2.1);rintro e w13 ⟨v145,rfl,ho0,hb⟩;have HO146:=Aside0.mk (Kd.R_lower (Kd.R_new' ho0 (Kd.R_lt (YcR HO143))) (below_size (Ya)));replace HO143:=Aside0.mk (Kd.R_elder' (YcR HO143) (Kd.R_base ho0) hb);replace BK140:=Aside0.mk (blk_below (Ye BK140) hb);replace HB:=Aside0.mk (below_step (Ya) hb);clear hb ho0)));(repeat(go_quiet(first|(refine Y4 2 #[.int .i64 a0_0,.slice A0_1 l0_1.length c0_1] 26 ?_;intro gb140 hg w8 hbox hb;have BK140:=Aside0.mk (hbox);have GW140:=Yge HB hg;have GE140:=Yge HB hg;replace HB:=Aside0.mk (below_step (Ya) hb);clear hb hbox hg)|((with_reducible refine gate_dst (N:=12) rfl ?_);refine Kd.R_lit (Kd.int .i64) _ 2 ?hg (N:=12) ?hd (xs:=([(-1)]:List Int)) (inner:=[.int .i64 (-1)]) (ok:=fun _=>True) (okp:=fun _=>True) ?hr ?hp (fun _ hk=>hk) trivial (Below.refl _ _) (Nat.le_refl _) (by simp) ?_;(case hd=>rfl);(case hg=>rfl);(case hr=>first|(go_simp;done)|(go_simp;rfl));(case hp=>exact(Reps.one (show Kd.M (Kd.int .i64) _ _ _ (-1) [.int .i64 (-1)] from rfl) (Reps.none _ _)));intro v142 w9 ho10 hb hg_ hnew_;clear hg_ hnew_;(first|rw[← Ny141.out]at ho10|(simp only[Int.reduceToNat]at ho10;rw[← Ny141.out]at ho10));have HO143:=Aside0.mk (Kd.R_lower ho10 (below_size (Ya)));replace BK140:=Aside0.mk (blk_below (Ye BK140) hb);replace HB:=Aside0.mk (below_step (Ya) hb);clear hb ho10;obtain⟨hcz11_0,hcz11_1,hfz11_0,hfz11_1⟩:=Y2 BK140;obtain⟨Ao12,co12,eo12⟩:=Kd.R_slice HO143.out;subst eo12)|(go_at_call 167;(with_reducible refine(slices_Repeat_int64_int64.calls _ _ y141 a0_0 t144 _ ?side1 ?side2 A3.out).mono ?_);(case side1=>exact Yg ((Kd.R_reads' HO143.out).2.2));(case side2=>exact(Kd.R_reads' HO143.out).2.1);rintro e w13 ⟨v145,rfl,ho0,hb⟩;have HO146:=Aside0.mk (Kd.R_lower (Kd.R_new' ho0 (Kd.R_lt (YcR HO143))) (below_size (Ya)));replace HO143:=Aside0.mk (Kd.R_elder' (YcR HO143) (Kd.R_base ho0) hb);replace BK140:=Aside0.mk (blk_below (Ye BK140) hb);replace HB:=Aside0.mk (below_step (Ya) hb);clear hb ho0));try go_wp2_with(first|(refine Y4 2 #[.int .i64 a0_0,.slice A0_1 l0_1.length c0_1] 26 ?_;intro gb140 hg w8 hbox hb;have BK140:=Aside0.mk (hbox);have GW140:=Yge HB hg;have GE140:=Yge HB hg;replace HB:=Aside0.mk (below_step (Ya) hb);clear hb hbox hg)|((with_reducible refine gate_dst (N:=12) rfl ?_);refine Kd.R_lit (Kd.int .i64) _ 2 ?hg (N:=12) ?hd (xs:=([(-1)]:List Int)) (inner:=[.int .i64 (-1)]) (ok:=fun _=>True) (okp:=fun _=>True) ?hr ?hp (fun _ hk=>hk) trivial (Below.refl _ _) (Nat.le_refl _) (by simp) ?_;(case hd=>rfl);(case hg=>rfl);(case hr=>first|(go_simp;done)|(go_simp;rfl));(case hp=>exact(Reps.one (show Kd.M (Kd.int .i64) _ _ _ (-1) [.int .i64 (-1)] from rfl) (Reps.none _ _)));intro v142 w9 ho10 hb hg_ hnew_;clear hg_ hnew_;(first|rw[← Ny141.out]at ho10|(simp only[Int.reduceToNat]at ho10;rw[← Ny141.out]at ho10));have HO143:=Aside0.mk (Kd.R_lower ho10 (below_size (Ya)));replace BK140:=Aside0.mk (blk_below (Ye BK140) hb);replace HB:=Aside0.mk (below_step (Ya) hb);clear hb ho10;obtain⟨hcz11_0,hcz11_1,hfz11_0,hfz11_1⟩:=Y2 BK140;obtain⟨Ao12,co12,eo12⟩:=Kd.R_slice HO143.out;subst eo12)|(go_at_call 167;(with_reducible refine(slices_Repeat_int64_int64.calls _ _ y141 a0_0 t144 _ ?side1 ?side2 A3.out).mono ?_);(case side1=>exact Yg ((Kd.R_reads' HO143.out).2.2));(case side2=>exact(Kd.R_reads' HO143.out).2.1);rintro e w13 ⟨v145,rfl,ho0,hb⟩;have HO146:=Aside0.mk (Kd.R_lower (Kd.R_new' ho0 (Kd.R_lt (YcR HO143))) (below_size (Ya)));replace HO143:=Aside0.mk (Kd.R_elder' (YcR HO143) (Kd.R_base ho0) hb);replace BK140:=Aside0.mk (blk_below (Ye BK140) hb);replace HB:=Aside0.mk (below_step (Ya) hb);clear hb ho0))));(go_loopg[6,7,8] k (fun kq v6 v7 v8 w'=>∃(x5_1:List Int) (x6_1:Int) (x7_1:Int) (x8_1:Int),v6=.int .i64 x6_1∧v7=.int .i64 x7_1∧v8=.int .i64 x8_1∧Aside0 (impl_Graph_distances.l0 kq x5_1 x6_1 x7_1 x8_1 a0_0 l0_1=some r)∧Aside0 (kq≤k)∧Aside0 (Kd.R (Kd.int .i64) 2 w' w.heap.size (fun _=>True) v145 x5_1)∧Aside0 (w'.heap[gb140]? =some (.cells #[.int .i64 a0_0,(.slice A0_1 l0_1.length c0_1)] 26 (0,0)))∧Aside0 (Below w.heap.size w w')));(case atStart=>exact⟨(t144),(ji5),(ji5),(0),(by first|rfl|(simp;done)|(simp only[← hji5]<;>(first|rfl|simp))|(simp[*];done)),(by first|rfl|(simp;done)|(simp only[← hji5]<;>(first|rfl|simp))|(simp[*];done)),Yk,H',⟨Nat.le_refl _⟩,⟨YbR (Kd.R_mono HO146.out (fun _ hk=>trivial))⟩,⟨Ye BK140⟩,⟨Ya⟩⟩)
  case round=>
    (clear H');(try clear c4b0);(try clear c4b1);(try clear c6b0);(try clear hcz11_0);(try clear hcz11_1);(try clear hfz11_0);(try clear hfz11_1);(obtain⟨x5_1,x6_1,x7_1,x8_1,rfl,rfl,rfl,HA,HK1,HO_5,BK140,HB⟩:=hrel)
    cases gk with
    |zero=>exact absurd HA.out (by simp[impl_Graph_distances.l0])
    |succ k1=>
      (have H:=HA.out);clear HA;(simp only[impl_Graph_distances.l0]at H);(replace H:=Yp H);(obtain⟨c14,H⟩|⟨c14,H⟩:=H);(· (obtain⟨c14b0,c14b1⟩:=Yv c14);clear c14;(obtain rfl:=Option.some.inj H);go_wp2;(repeat(go_quiet(fail);try go_wp2));go_ret;(exact⟨_,by first|rfl|(simp[errW_none,errW_some]<;>rfl)|(simp only[← hji5];first|rfl|(simp[errW_none,errW_some]<;>rfl))|(simp[*,errW_none,errW_some]<;>rfl),YcR HO_5,Ya⟩))
      · obtain⟨c14b0,c14b1⟩:=Yw c14
        (replace H:=Yq H);(obtain⟨t147,A15,H⟩:=H);(have H':=Aside0.mk H);clear H;(go_wp2_with(first|(go_at_call 99;(with_reducible refine(impl_list.calls k1 x7_1 t147 _ ?side1 A15.out).mono ?_);(case side1=>exact TabW.below HT.out (Ya));rintro e w16 ⟨v148,rfl,ho0,hb⟩;have HO149:=Aside0.mk (Kd.R_lower (Kd.R_new' ho0 (Kd.R_lt (YcR HO_5))) (below_size (Ya)));replace HO_5:=Aside0.mk (Kd.R_elder' (YcR HO_5) (Kd.R_base ho0) hb);replace BK140:=Aside0.mk (blk_below (Ye BK140) hb);replace HB:=Aside0.mk (below_step (Ya) hb);clear hb ho0;obtain⟨Ao17,co17,eo17⟩:=Kd.R_slice HO149.out;subst eo17)));(repeat(go_quiet(first|(go_at_call 99;(with_reducible refine(impl_list.calls k1 x7_1 t147 _ ?side1 A15.out).mono ?_);(case side1=>exact TabW.below HT.out (Ya));rintro e w16 ⟨v148,rfl,ho0,hb⟩;have HO149:=Aside0.mk (Kd.R_lower (Kd.R_new' ho0 (Kd.R_lt (YcR HO_5))) (below_size (Ya)));replace HO_5:=Aside0.mk (Kd.R_elder' (YcR HO_5) (Kd.R_base ho0) hb);replace BK140:=Aside0.mk (blk_below (Ye BK140) hb);replace HB:=Aside0.mk (below_step (Ya) hb);clear hb ho0;obtain⟨Ao17,co17,eo17⟩:=Kd.R_slice HO149.out;subst eo17));try go_wp2_with(first|(go_at_call 99;(with_reducible refine(impl_list.calls k1 x7_1 t147 _ ?side1 A15.out).mono ?_);(case side1=>exact TabW.below HT.out (Ya));rintro e w16 ⟨v148,rfl,ho0,hb⟩;have HO149:=Aside0.mk (Kd.R_lower (Kd.R_new' ho0 (Kd.R_lt (YcR HO_5))) (below_size (Ya)));replace HO_5:=Aside0.mk (Kd.R_elder' (YcR HO_5) (Kd.R_base ho0) hb);replace BK140:=Aside0.mk (blk_below (Ye BK140) hb);replace HB:=Aside0.mk (below_step (Ya) hb);clear hb ho0;obtain⟨Ao17,co17,eo17⟩:=Kd.R_slice HO149.out;subst eo17))));(go_loopg[9,27] k1 (fun kq v9 v27 w'=>∃(x5_2:List Int) (x9_2:Int) (x27_2:Int),v9=.int .i64 x9_2∧v27=.int .i64 x27_2∧Aside0 (impl_Graph_distances.l1 kq x5_2 x6_1 x8_1 x9_2 t147 (t147.length:Int) x27_2 a0_0 l0_1=some r)∧Aside0 (kq≤k1)∧Aside0 (Kd.R (Kd.int .i64) 2 w' w.heap.size (fun k_=>some k_≠((.slice Ao17 t147.length co17):Value).ownBlock) v145 x5_2)∧Aside0 (Kd.R (Kd.int .i64) 2 w' w.heap.size (fun k_=>some k_≠(v145:Value).ownBlock) (.slice Ao17 t147.length co17) t147)∧Aside0 (w'.heap[gb140]? =some (.cells #[.int .i64 a0_0,(.slice A0_1 l0_1.length c0_1)] 26 (0,0)))∧Aside0 (Below w.heap.size w w')));(case atStart=>exact⟨(x5_1),(0),(0),Yk,Yk,H',⟨Nat.le_refl _⟩,⟨YbR (Kd.R_mono HO_5.out (fun _ hk=>hk.2))⟩,⟨YbR (Kd.R_mono HO149.out (fun _ hk=>hk.2))⟩,⟨Ye BK140⟩,⟨Ya⟩⟩)
        case round=>
          (clear H');(try clear c4b0);(try clear c4b1);(try clear c6b0);(try clear c14);(try clear c14b0);(try clear c14b1);(try clear hcz11_0);(try clear hcz11_1);(try clear hfz11_0);(try clear hfz11_1);(obtain⟨x5_2,x9_2,x27_2,rfl,rfl,HA,HK2,HO_5,HO_25,BK140,HB⟩:=hrel)
          cases gk with
          |zero=>exact absurd HA.out (by simp[impl_Graph_distances.l1])
          |succ k2=>
            (have H:=HA.out);clear HA;(simp only[impl_Graph_distances.l1]at H);(replace H:=Yp H);(obtain⟨c18,H⟩|⟨c18,H⟩:=H);(· (have c18b0:=decide_eq_true c18);clear c18;(replace H:=Dn3 H);(obtain⟨c19b0,c20b0,c21b0,H⟩:=H);(replace H:=Dn H);(obtain⟨c22b0,H⟩:=H);(obtain⟨y151,hy151⟩:∃y_:List Int,y_=(x5_2.set ((rd t147 x27_2):Int).toNat x8_1):=⟨_,rfl⟩);(replace H:(if(rd t147 x27_2)<(l0_1.length:Int)then(impl_Graph_distances.l1 k2 y151 x6_1 x8_1 (Go.bits .or .i64 x9_2 (rd l0_1 (rd t147 x27_2))) t147 (t147.length:Int) (wrap64 (x27_2+1)) a0_0 l0_1)else(none))=some r:=by first|(rw[hy151];with_reducible exact H)|(have H2_:=(Option.bind_some _ _).symm.trans H;rw[hy151];with_reducible exact H2_)|(have H2_:=(Option.bind_some _ _).symm.trans H;with_reducible exact H2_)|with_reducible exact H|(rw[hy151];exact H)|exact H);(have Ny151:=Aside0.mk hy151);clear hy151;(replace H:=Dn H);(obtain⟨c24b0,H⟩:=H);(have H':=Aside0.mk H);clear H;(have p150:0≤(x27_2:Int):=Ym);(have q150:x27_2<(t147.length:Int):=Ym);(obtain⟨ad150,e150,hx150_0⟩:=Kd.at_int (Kd.R_reads' HO_25.out).2.2 x27_2 p150 q150);(cases e150);(replace p150:=eq_true p150);(replace q150:=eq_true q150);(have p23:0≤((rd t147 x27_2):Int):=Ym);(have q23:((rd t147 x27_2):Int)<((x5_2.length:Int):Int):=Ym);(obtain⟨go23,co23,eo23,gb23,gl23,cl23,HG23⟩:=Kd.R_form HO_5.out (by omega));(first|cases eo23|(injection eo23 with ea_ en_ ec_;(first|subst ea_|(injection ea_ with ea_;subst ea_));subst ec_;clear en_));(have GB23:=Aside0.mk gb23);(have GG23:=Aside0.mk HG23);clear gb23 gl23 HG23;(obtain⟨hx23_0,hf23_0⟩:=Kd.R_celln 0 HO_5.out ((rd t147 x27_2):Int) p23 q23);(replace p23:=eq_true p23);(replace q23:=eq_true q23);(have HP25:=Kd.R_putg HO_5.out ((rd t147 x27_2):Int) x8_1);(go_wp2_with(first|((with_reducible refine gate_store (t:=2) (p:=34) rfl ?_);(try(rw[drewN_self wr];generalize hq_:World.drewN wr _=wr;have n0_:=Aside0.mk (Kd.R_at hq_ HO_5.out);have n1_:=Aside0.mk (Kd.R_at hq_ HO_25.out);have n2_:=Aside0.mk (blk_at hq_ BK140.out);have n3_:=Aside0.mk (below_at hq_ HB.out);clear hq_ HO_5 HO_25 BK140 HB;have HO_5:=n0_;have HO_25:=n1_;have BK140:=n2_;have HB:=n3_;clear n0_ n1_ n2_ n3_;(try(have HP25:=Kd.R_putg HO_5.out ((rd t147 x27_2):Int) x8_1))));refine store_event (t:=2) (p:=34) (v:=?vo_w26) (w1:=(wr.setCell ⟨go23,((rd t147 x27_2):Int).toNat,none⟩ (.int .i64 x8_1))) ?hg ?ho ?hn ?hr ?_;(case ho=>rfl);(case hg=>rfl);(case hn=>rfl);(case hr=>first|(go_simp;done)|(go_simp;rfl));intro w26 hw;have hg:wr.grownBy w26 (some go23):=(by rw[hw];exact HP25.2);have hp_:Kd.R (Kd.int .i64) 2 w26 w.heap.size (fun k_=>some k_≠(.slice (some ad150) t147.length co17:Value).ownBlock) (.slice (some ⟨go23,0,none⟩) x5_2.length co23) y151:=(by rw[hw,Ny151.out];exact HP25.1);clear HP25;replace HO_25:=Aside0.mk (Kd.R_after (v:=(.slice (some ⟨go23,0,none⟩) x5_2.length co23)) (v1:=(.slice (some ⟨go23,0,none⟩) x5_2.length co23)) (ok:=(fun _=>True)) (YbR (Kd.R_mono HO_25.out (fun _ hk=>⟨trivial,hk⟩))) hg (.inl rfl));replace BK140:=Aside0.mk (blk_grown (Ye BK140) hg (Kd.R_ne HO_5.out BK140.out (by decide)));replace HO_5:=Aside0.mk (hp_);replace HB:=Aside0.mk ((by rw[hw];exact below_set (HB.out) GB23.out:Below w.heap.size w w26));clear hg hw hp_;obtain⟨hcz27_0,hcz27_1,hfz27_0,hfz27_1⟩:=Y2 BK140;have p152:0≤((rd t147 x27_2):Int):=Ym;have q152:(rd t147 x27_2)<(l0_1.length:Int):=Ym;obtain⟨ad152,e152,hx152_0⟩:=Kd.at_int HR0_1.out (rd t147 x27_2) p152 q152;cases e152;replace hx152_0:=(HB.out.cell (World.block_lt_of_cell? _ _ hx152_0)).trans hx152_0;replace p152:=eq_true p152;replace q152:=eq_true q152)));(repeat(go_quiet(first|((with_reducible refine gate_store (t:=2) (p:=34) rfl ?_);(try(rw[drewN_self wr];generalize hq_:World.drewN wr _=wr;have n0_:=Aside0.mk (Kd.R_at hq_ HO_5.out);have n1_:=Aside0.mk (Kd.R_at hq_ HO_25.out);have n2_:=Aside0.mk (blk_at hq_ BK140.out);have n3_:=Aside0.mk (below_at hq_ HB.out);clear hq_ HO_5 HO_25 BK140 HB;have HO_5:=n0_;have HO_25:=n1_;have BK140:=n2_;have HB:=n3_;clear n0_ n1_ n2_ n3_;(try(have HP25:=Kd.R_putg HO_5.out ((rd t147 x27_2):Int) x8_1))));refine store_event (t:=2) (p:=34) (v:=?vo_w26) (w1:=(wr.setCell ⟨go23,((rd t147 x27_2):Int).toNat,none⟩ (.int .i64 x8_1))) ?hg ?ho ?hn ?hr ?_;(case ho=>rfl);(case hg=>rfl);(case hn=>rfl);(case hr=>first|(go_simp;done)|(go_simp;rfl));intro w26 hw;have hg:wr.grownBy w26 (some go23):=(by rw[hw];exact HP25.2);have hp_:Kd.R (Kd.int .i64) 2 w26 w.heap.size (fun k_=>some k_≠(.slice (some ad150) t147.length co17:Value).ownBlock) (.slice (some ⟨go23,0,none⟩) x5_2.length co23) y151:=(by rw[hw,Ny151.out];exact HP25.1);clear HP25;replace HO_25:=Aside0.mk (Kd.R_after (v:=(.slice (some ⟨go23,0,none⟩) x5_2.length co23)) (v1:=(.slice (some ⟨go23,0,none⟩) x5_2.length co23)) (ok:=(fun _=>True)) (YbR (Kd.R_mono HO_25.out (fun _ hk=>⟨trivial,hk⟩))) hg (.inl rfl));replace BK140:=Aside0.mk (blk_grown (Ye BK140) hg (Kd.R_ne HO_5.out BK140.out (by decide)));replace HO_5:=Aside0.mk (hp_);replace HB:=Aside0.mk ((by rw[hw];exact below_set (HB.out) GB23.out:Below w.heap.size w w26));clear hg hw hp_;obtain⟨hcz27_0,hcz27_1,hfz27_0,hfz27_1⟩:=Y2 BK140;have p152:0≤((rd t147 x27_2):Int):=Ym;have q152:(rd t147 x27_2)<(l0_1.length:Int):=Ym;obtain⟨ad152,e152,hx152_0⟩:=Kd.at_int HR0_1.out (rd t147 x27_2) p152 q152;cases e152;replace hx152_0:=(HB.out.cell (World.block_lt_of_cell? _ _ hx152_0)).trans hx152_0;replace p152:=eq_true p152;replace q152:=eq_true q152));try go_wp2_with(first|((with_reducible refine gate_store (t:=2) (p:=34) rfl ?_);(try(rw[drewN_self wr];generalize hq_:World.drewN wr _=wr;have n0_:=Aside0.mk (Kd.R_at hq_ HO_5.out);have n1_:=Aside0.mk (Kd.R_at hq_ HO_25.out);have n2_:=Aside0.mk (blk_at hq_ BK140.out);have n3_:=Aside0.mk (below_at hq_ HB.out);clear hq_ HO_5 HO_25 BK140 HB;have HO_5:=n0_;have HO_25:=n1_;have BK140:=n2_;have HB:=n3_;clear n0_ n1_ n2_ n3_;(try(have HP25:=Kd.R_putg HO_5.out ((rd t147 x27_2):Int) x8_1))));refine store_event (t:=2) (p:=34) (v:=?vo_w26) (w1:=(wr.setCell ⟨go23,((rd t147 x27_2):Int).toNat,none⟩ (.int .i64 x8_1))) ?hg ?ho ?hn ?hr ?_;(case ho=>rfl);(case hg=>rfl);(case hn=>rfl);(case hr=>first|(go_simp;done)|(go_simp;rfl));intro w26 hw;have hg:wr.grownBy w26 (some go23):=(by rw[hw];exact HP25.2);have hp_:Kd.R (Kd.int .i64) 2 w26 w.heap.size (fun k_=>some k_≠(.slice (some ad150) t147.length co17:Value).ownBlock) (.slice (some ⟨go23,0,none⟩) x5_2.length co23) y151:=(by rw[hw,Ny151.out];exact HP25.1);clear HP25;replace HO_25:=Aside0.mk (Kd.R_after (v:=(.slice (some ⟨go23,0,none⟩) x5_2.length co23)) (v1:=(.slice (some ⟨go23,0,none⟩) x5_2.length co23)) (ok:=(fun _=>True)) (YbR (Kd.R_mono HO_25.out (fun _ hk=>⟨trivial,hk⟩))) hg (.inl rfl));replace BK140:=Aside0.mk (blk_grown (Ye BK140) hg (Kd.R_ne HO_5.out BK140.out (by decide)));replace HO_5:=Aside0.mk (hp_);replace HB:=Aside0.mk ((by rw[hw];exact below_set (HB.out) GB23.out:Below w.heap.size w w26));clear hg hw hp_;obtain⟨hcz27_0,hcz27_1,hfz27_0,hfz27_1⟩:=Y2 BK140;have p152:0≤((rd t147 x27_2):Int):=Ym;have q152:(rd t147 x27_2)<(l0_1.length:Int):=Ym;obtain⟨ad152,e152,hx152_0⟩:=Kd.at_int HR0_1.out (rd t147 x27_2) p152 q152;cases e152;replace hx152_0:=(HB.out.cell (World.block_lt_of_cell? _ _ hx152_0)).trans hx152_0;replace p152:=eq_true p152;replace q152:=eq_true q152))));(go_roundg k2);(case measure=>have:=HK1.out;have:=HK2.out;omega);(case rel=>exact⟨(y151),(Go.bits .or .i64 x9_2 (rd l0_1 (rd t147 x27_2))),(wrap64 (x27_2+1)),Yk,Yk,H',⟨by have:=HK1.out;have:=HK2.out;omega⟩,⟨YcR HO_5⟩,⟨YbR (Kd.R_mono HO_25.out (fun _ hk=>hk.2))⟩,⟨Ye BK140⟩,⟨Ya⟩⟩))
            · have c18b0:=decide_eq_false c18
              clear c18;(have H':=Aside0.mk H);clear H;go_wp2;(repeat(go_quiet(fail);try go_wp2));(go_roundg k2);(case measure=>have:=HK1.out;have:=HK2.out;omega);(case rel=>exact⟨(x5_2),(Go.bits .or .i64 x6_1 x9_2),(Go.bits .andNot .i64 x9_2 x6_1),(wrap64 (x8_1+1)),Yk,Yk,Yk,H',⟨by have:=HK1.out;have:=HK2.out;omega⟩,⟨YbR (Kd.R_mono HO_5.out (fun _ hk=>trivial))⟩,⟨Ye BK140⟩,⟨Ya⟩⟩)
def slices_Max_int64_int64.l0:Nat→List Int→Int→Int→Option (Int)
  |0,_,_,_=>none
  |k+1,x0,x3,x4=>if x4<(x0.length:Int)then(if 0≤x4 then(slices_Max_int64_int64.l0 k x0 (mx x3 (rd x0 x4)) (wrap64 (x4+1)))else(none))else(some x3)
def slices_Max_int64_int64.f (k:Nat) (l0:List Int):Option (Int):=if(l0.length:Int)<1 then(none)else(if 0<(l0.length:Int)then(slices_Max_int64_int64.l0 k l0 (rd l0 0) 1)else(none))
set_option maxHeartbeats 8000000 in
set_option maxRecDepth 100000 in
theorem slices_Max_int64_int64.calls (k:Nat) (A0:Option Addr) (c0:Nat) (l0:List Int) (r:Int) (w:World) (hr0:Kd.C (Kd.int .i64) w A0 l0.length l0) (hc0:l0.length≤c0) (h:slices_Max_int64_int64.f k l0=some r) :
    Calls Tryd.prog 101 #[.slice A0 l0.length c0] w fun e w'=>e=.returned (.int .i64 r)∧Below w.heap.size w w':=by
  (have HR0:=Aside0.mk hr0);(have HC0:=Aside0.mk hc0);clear hr0 hc0;(have HB:=Aside0.mk (Below.refl w.heap.size w));(have H:(if(l0.length:Int)<1 then(none)else(if 0<(l0.length:Int)then(slices_Max_int64_int64.l0 k l0 (rd l0 0) 1)else(none)))=some r:=h);clear h;(replace H:=Yo H);(obtain⟨c2,H⟩:=H);(have c2b0:decide ((l0.length:Int)<1)=false:=decide_eq_false c2);(have c2b1:decide (l0.length<1)=false:=decide_eq_false (by omega));clear c2;(replace H:=Yn H);(obtain⟨c3,H⟩:=H);(have c3b0:decide (0<(l0.length:Int))=true:=decide_eq_true c3);(have c3b1:decide (0<l0.length)=true:=decide_eq_true (by omega));clear c3;(have H':=Aside0.mk H);clear H;(have p153:0≤(0:Int):=(by omega));(have q153:0<(l0.length:Int):=Ym);(obtain⟨ad153,e153,hx153_0⟩:=Kd.at_int HR0.out 0 p153 q153);(cases e153);(have qi153:(0<l0.length)=True:=eq_true (by omega));(try rw[show((0:Int)).toNat=0 from rfl]at hx153_0);(try rw[Addr.add_zero']at hx153_0);(replace p153:=eq_true p153);(replace q153:=eq_true q153);(go_enter Tryd.func101,Tryd.ntmps101);go_wp2;(go_loopg[3,4] k (fun kq v3 v4 w'=>∃(x3_1:Int) (x4_1:Int),v3=.int .i64 x3_1∧v4=.int .i64 x4_1∧Aside0 (slices_Max_int64_int64.l0 kq l0 x3_1 x4_1=some r)∧Aside0 (kq≤k)∧Aside0 (Below w.heap.size w w')));(case atStart=>exact⟨(rd l0 0),(1),Yk,Yk,H',⟨Nat.le_refl _⟩,⟨Ya⟩⟩)
  case round=>
    (clear H');(try clear c2b0);(try clear c2b1);(try clear c3b0);(try clear c3b1);(try clear hx153_0);(try clear p153);(try clear q153);(obtain⟨x3_1,x4_1,rfl,rfl,HA,HK1,HB⟩:=hrel)
    cases gk with
    |zero=>exact absurd HA.out (by simp[slices_Max_int64_int64.l0])
    |succ k1=>
      (have H:=HA.out);clear HA;(simp only[slices_Max_int64_int64.l0]at H);(replace H:=Yp H);(obtain⟨c4,H⟩|⟨c4,H⟩:=H);(· (have c4b0:=decide_eq_true c4);clear c4;(replace H:=Dn H);(obtain⟨c5b0,H⟩:=H);(obtain⟨ji6,hji6⟩:=Yt (mx x3_1 (rd l0 x4_1)));(try simp only[hji6]at H);(have hji6_:(if x3_1<(rd l0 x4_1)then(rd l0 x4_1)else x3_1)=ji6:=hji6);(have H':=Aside0.mk H);clear H;(have p154:0≤(x4_1:Int):=Ym);(have q154:x4_1<(l0.length:Int):=Ym);(obtain⟨ad154,e154,hx154_0⟩:=Kd.at_int HR0.out x4_1 p154 q154);(obtain rfl:ad153=ad154:=(by injection e154));(replace hx154_0:=(HB.out.cell (World.block_lt_of_cell? _ _ hx154_0)).trans hx154_0);(replace p154:=eq_true p154);(replace q154:=eq_true q154);go_wp2;(go_roundg k1);(case measure=>have:=HK1.out;omega);(case rel=>exact⟨(ji6),(wrap64 (x4_1+1)),(by first|rfl|(simp;done)|(simp only[← hji6]<;>(first|rfl|simp))|(simp[*];done)),Yk,H',⟨by have:=HK1.out;omega⟩,⟨Ya⟩⟩))
      · have c4b0:=decide_eq_false c4
        clear c4;(obtain rfl:=Option.some.inj H);go_wp2;go_ret;(exact⟨Yl,Ya⟩)
def slices_Index_int64_int64.l0:Nat→List Int→Int→Int→Int→Option (Int)
  |0,_,_,_,_=>none
  |k+1,x0,x1,x7,x8=>if x8<x7 then(if 0≤x8 then(if x8<(x0.length:Int)then(if x1=(rd x0 x8)then(some x8)else(slices_Index_int64_int64.l0 k x0 x1 x7 (wrap64 (x8+1))))else(none))else(none))else(some (-1))
def slices_Index_int64_int64.f (k:Nat) (l0:List Int) (a1:Int):Option (Int):=slices_Index_int64_int64.l0 k l0 a1 (l0.length:Int) 0
set_option maxHeartbeats 8000000 in
set_option maxRecDepth 100000 in
theorem slices_Index_int64_int64.calls (k:Nat) (A0:Option Addr) (c0:Nat) (l0:List Int) (a1:Int) (r:Int) (w:World) (hr0:Kd.C (Kd.int .i64) w A0 l0.length l0) (hc0:l0.length≤c0) (h:slices_Index_int64_int64.f k l0 a1=some r) :
    Calls Tryd.prog 204 #[.slice A0 l0.length c0,.int .i64 a1] w fun e w'=>e=.returned (.int .i64 r)∧Drawn0 w w':=by
  (have HR0:=Aside0.mk hr0);(have HC0:=Aside0.mk hc0);clear hr0 hc0;(have H:(slices_Index_int64_int64.l0 k l0 a1 (l0.length:Int) 0)=some r:=h);clear h;(have H':=Aside0.mk H);clear H;(go_enter Tryd.func204,Tryd.ntmps204);go_wp2;(go_loopg[8] k (fun kq v8 w'=>∃(x8_1:Int),v8=.int .i64 x8_1∧Aside0 (slices_Index_int64_int64.l0 kq l0 a1 (l0.length:Int) x8_1=some r)∧Aside0 (kq≤k)∧Drawn0 w w'));(case atStart=>exact⟨(0),Yk,H',⟨Nat.le_refl _⟩,by repeat(first|exact Drawn0.refl _|apply Drawn0.step)⟩)
  case round=>
    (clear H');(obtain⟨x8_1,rfl,HA,HK1,⟨m1,rfl⟩⟩:=hrel)
    cases gk with
    |zero=>exact absurd HA.out (by simp[slices_Index_int64_int64.l0])
    |succ k1=>
      (have H:=HA.out);clear HA;(simp only[slices_Index_int64_int64.l0]at H);(replace H:=Yp H);(obtain⟨c3,H⟩|⟨c3,H⟩:=H);(· (have c3b0:=decide_eq_true c3);clear c3;(replace H:=Dn2 H);(obtain⟨c4b0,c5b0,H⟩:=H);(replace H:=Yp H);(obtain⟨c6,H⟩|⟨c6,H⟩:=H);(· (obtain⟨c6b0,c6b1⟩:=Yv c6);clear c6;(obtain rfl:=Option.some.inj H);(have p155:0≤(x8_1:Int):=Ym);(have q155:x8_1<(l0.length:Int):=Ym);(obtain⟨ad155,e155,hx155_0⟩:=Kd.at_int HR0.out x8_1 p155 q155);(cases e155);(replace p155:=eq_true p155);(replace q155:=eq_true q155);go_wp2;go_ret;(exact⟨by first|rfl|(simp;done)|(simp[*];done),by repeat(first|exact Drawn0.refl _|apply Drawn0.step)⟩));(· (obtain⟨c6b0,c6b1⟩:=Yw c6);(have H':=Aside0.mk H);clear H;(have p155:0≤(x8_1:Int):=Ym);(have q155:x8_1<(l0.length:Int):=Ym);(obtain⟨ad155,e155,hx155_0⟩:=Kd.at_int HR0.out x8_1 p155 q155);(cases e155);(replace p155:=eq_true p155);(replace q155:=eq_true q155);go_wp2;(go_roundg k1);(case measure=>have:=HK1.out;omega);(case rel=>exact⟨(wrap64 (x8_1+1)),Yk,H',⟨by have:=HK1.out;omega⟩,by repeat(first|exact Drawn0.refl _|apply Drawn0.step)⟩)))
      · have c3b0:=decide_eq_false c3
        clear c3;(obtain rfl:=Option.some.inj H);go_wp2;go_ret;(exact⟨by first|rfl|(simp;done)|(simp[*];done),by repeat(first|exact Drawn0.refl _|apply Drawn0.step)⟩)
def slices_Contains_int64_int64.f (k:Nat) (l0:List Int) (a1:Int):Option (Bool):=(slices_Index_int64_int64.f k l0 a1).bind fun t156=>(some (decide (t156≥0)))
set_option maxHeartbeats 8000000 in
set_option maxRecDepth 100000 in
theorem slices_Contains_int64_int64.calls (k:Nat) (A0:Option Addr) (c0:Nat) (l0:List Int) (a1:Int) (r:Bool) (w:World) (hr0:Kd.C (Kd.int .i64) w A0 l0.length l0) (hc0:l0.length≤c0) (h:slices_Contains_int64_int64.f k l0 a1=some r) :
    Calls Tryd.prog 176 #[.slice A0 l0.length c0,.int .i64 a1] w fun e w'=>e=.returned (.bool r)∧Drawn0 w w':=by
  (have HR0:=Aside0.mk hr0);(have HC0:=Aside0.mk hc0);clear hr0 hc0;(have H:((slices_Index_int64_int64.f k l0 a1).bind fun t156=>(some (decide (t156≥0))))=some r:=h);clear h;(replace H:=Yq H);(obtain⟨t156,A3,H⟩:=H);(obtain rfl:=Option.some.inj H);(go_enter Tryd.func176,Tryd.ntmps176);(go_wp2_with(first|(refine Y5 204 (some 7) Tryd.func204 #[.slice A0 l0.length c0,.int .i64 a1] ?_;(with_reducible refine(slices_Index_int64_int64.calls k _ _ l0 a1 t156 _ ?side1 ?side2 A3.out).mono ?_);(case side1=>exact Yg HR0.out);(case side2=>exact HC0.out);rintro e w' ⟨rfl,⟨nd,rfl⟩⟩;refine⟨_,rfl,?_⟩)));go_ret;(exact⟨by first|rfl|(simp;done)|(simp[*];done),by repeat(first|exact Drawn0.refl _|apply Drawn0.step)⟩)
def impl_Digraph_diameter.l0:Nat→Int→Int→Int→Int→List Int→Option (Int)
  |0,_,_,_,_,_=>none
  |k+1,x3,x7,x8,x158000,x158001=>if x8<x7 then((impl_Graph_distances.f k x158000 x158001 x8).bind fun t158=>((slices_Contains_int64_int64.f k t158 (-1)).bind fun t161=>(if t161=true then(some (-1))else((slices_Max_int64_int64.f k t158).bind fun t162=>(impl_Digraph_diameter.l0 k (mx x3 t162) x7 (wrap64 (x8+1)) x158000 x158001)))))else(some x3)
def impl_Digraph_diameter.f (k:Nat) (a0_0:Int) (l0_1:List Int):Option (Int):=impl_Digraph_diameter.l0 k 0 a0_0 0 a0_0 l0_1
set_option maxHeartbeats 8000000 in
set_option maxRecDepth 100000 in
theorem impl_Digraph_diameter.calls (k:Nat) (a0_0:Int) (A0_1:Option Addr) (c0_1:Nat) (l0_1:List Int) (r:Int) (w:World) (hr0_1:Kd.C (Kd.int .i64) w A0_1 l0_1.length l0_1) (hc0_1:l0_1.length≤c0_1) (hT:TabW w) (h:impl_Digraph_diameter.f k a0_0 l0_1=some r) :
    Calls Tryd.prog 117 #[.agg #[.int .i64 a0_0,.slice A0_1 l0_1.length c0_1]] w fun e w'=>e=.returned (.int .i64 r)∧Below w.heap.size w w':=by
  (have hu43:=Tryd.underlying43);(have HT:=Aside0.mk hT);clear hT;(have HR0_1:=Aside0.mk hr0_1);(have HC0_1:=Aside0.mk hc0_1);clear hr0_1 hc0_1;(have HB:=Aside0.mk (Below.refl w.heap.size w));(have H:(impl_Digraph_diameter.l0 k 0 a0_0 0 a0_0 l0_1)=some r:=h);clear h;(have H':=Aside0.mk H);clear H;(go_enter Tryd.func117,Tryd.ntmps117);(go_wp2_with(first|(refine Y4 1 #[.int .i64 a0_0,.slice A0_1 l0_1.length c0_1] 43 ?_;intro gb157 hg w2 hbox hb;have BK157:=Aside0.mk (hbox);have GW157:=Yge HB hg;have GE157:=Yge HB hg;replace HB:=Aside0.mk (below_step (Ya) hb);clear hb hbox hg;obtain⟨hcz3_0,hcz3_1,hfz3_0,hfz3_1⟩:=Y2 BK157)));(go_loopg[3,8] k (fun kq v3 v8 w'=>∃(x3_1:Int) (x8_1:Int),v3=.int .i64 x3_1∧v8=.int .i64 x8_1∧Aside0 (impl_Digraph_diameter.l0 kq x3_1 a0_0 x8_1 a0_0 l0_1=some r)∧Aside0 (kq≤k)∧Aside0 (w'.heap[gb157]? =some (.cells #[.int .i64 a0_0,(.slice A0_1 l0_1.length c0_1)] 43 (0,0)))∧Aside0 (Below w.heap.size w w')));(case atStart=>exact⟨(0),(0),Yk,Yk,H',⟨Nat.le_refl _⟩,⟨Ye BK157⟩,⟨Ya⟩⟩)
  case round=>
    (clear H');(try clear hcz3_0);(try clear hcz3_1);(try clear hfz3_0);(try clear hfz3_1);(obtain⟨x3_1,x8_1,rfl,rfl,HA,HK1,BK157,HB⟩:=hrel)
    cases gk with
    |zero=>exact absurd HA.out (by simp[impl_Digraph_diameter.l0])
    |succ k1=>
      (have H:=HA.out);clear HA;(simp only[impl_Digraph_diameter.l0]at H);(replace H:=Yp H);(obtain⟨c4,H⟩|⟨c4,H⟩:=H);(· (have c4b0:=decide_eq_true c4);clear c4;(replace H:=Yq H);(obtain⟨t158,A5,H⟩:=H);(replace H:=Yq H);(obtain⟨t161,A6,H⟩:=H);(by_cases c7:t161=true);(· subst c7;(replace H:=Ybt H);(obtain rfl:=Option.some.inj H);(obtain⟨hcz8_0,hcz8_1,hfz8_0,hfz8_1⟩:=Y2 BK157);(go_wp2_with(first|(refine Y5 100 (some 13) Tryd.func100 #[.agg #[.int .i64 a0_0,.slice A0_1 l0_1.length c0_1],.int .i64 x8_1] ?_;(with_reducible refine(impl_Graph_distances.calls k1 a0_0 _ _ l0_1 x8_1 t158 _ ?side1 ?side2 ?side3 A5.out).mono ?_);(case side1=>exact Yg (Kd.C_below HR0_1.out HB.out));(case side2=>exact HC0_1.out);(case side3=>exact TabW.below HT.out (Ya));rintro e w9 ⟨v159,rfl,ho0,hb⟩;refine⟨_,rfl,?_⟩;have HO160:=Aside0.mk (Kd.R_lower ho0 (below_size (Ya)));replace BK157:=Aside0.mk (blk_below (Ye BK157) hb);replace HB:=Aside0.mk (below_step (Ya) hb);clear hb ho0;obtain⟨Ao10,co10,eo10⟩:=Kd.R_slice HO160.out;subst eo10)|(refine Y5 176 (some 15) Tryd.func176 #[.slice Ao10 t158.length co10,.int .i64 (-1)] ?_;(with_reducible refine(slices_Contains_int64_int64.calls k1 _ _ t158 (-1) true _ ?side1 ?side2 A6.out).mono ?_);(case side1=>exact Yg ((Kd.R_reads' HO160.out).2.2));(case side2=>exact(Kd.R_reads' HO160.out).2.1);rintro e w' ⟨rfl,⟨nd,rfl⟩⟩;refine⟨_,rfl,?_⟩)));go_ret;(exact⟨Yl,Ya⟩));(· (replace c7:=Bool.eq_false_iff.mpr c7);subst c7;(replace H:=Ybf H);(replace H:=Yq H);(obtain⟨t162,A11,H⟩:=H);(obtain⟨ji12,hji12⟩:=Yt (mx x3_1 t162));(try simp only[hji12]at H A5 A6 A11);(have hji12_:(if x3_1<t162 then t162 else x3_1)=ji12:=hji12);(have H':=Aside0.mk H);clear H;(obtain⟨hcz13_0,hcz13_1,hfz13_0,hfz13_1⟩:=Y2 BK157);(go_wp2_with(first|(refine Y5 100 (some 13) Tryd.func100 #[.agg #[.int .i64 a0_0,.slice A0_1 l0_1.length c0_1],.int .i64 x8_1] ?_;(with_reducible refine(impl_Graph_distances.calls k1 a0_0 _ _ l0_1 x8_1 t158 _ ?side1 ?side2 ?side3 A5.out).mono ?_);(case side1=>exact Yg (Kd.C_below HR0_1.out HB.out));(case side2=>exact HC0_1.out);(case side3=>exact TabW.below HT.out (Ya));rintro e w14 ⟨v159,rfl,ho0,hb⟩;refine⟨_,rfl,?_⟩;have HO160:=Aside0.mk (Kd.R_lower ho0 (below_size (Ya)));replace BK157:=Aside0.mk (blk_below (Ye BK157) hb);replace HB:=Aside0.mk (below_step (Ya) hb);clear hb ho0;obtain⟨Ao15,co15,eo15⟩:=Kd.R_slice HO160.out;subst eo15)|(refine Y5 176 (some 15) Tryd.func176 #[.slice Ao15 t158.length co15,.int .i64 (-1)] ?_;(with_reducible refine(slices_Contains_int64_int64.calls k1 _ _ t158 (-1) false _ ?side1 ?side2 A6.out).mono ?_);(case side1=>exact Yg ((Kd.R_reads' HO160.out).2.2));(case side2=>exact(Kd.R_reads' HO160.out).2.1);rintro e w' ⟨rfl,⟨nd,rfl⟩⟩;refine⟨_,rfl,?_⟩)|(refine Y5 101 (some 18) Tryd.func101 #[.slice Ao15 t158.length co15] ?_;(with_reducible refine(slices_Max_int64_int64.calls k1 _ _ t158 t162 _ ?side1 ?side2 A11.out).mono ?_);(case side1=>exact Yg ((Kd.R_reads' HO160.out).2.2));(case side2=>exact(Kd.R_reads' HO160.out).2.1);rintro e w16 ⟨rfl,hb⟩;refine⟨_,rfl,?_⟩;replace HO160:=Aside0.mk (Kd.R_below (YcR HO160) hb);replace BK157:=Aside0.mk (blk_below (Ye BK157) hb);replace HB:=Aside0.mk (below_step (Ya) hb);clear hb)));(go_roundg k1);(case measure=>have:=HK1.out;omega);(case rel=>exact⟨(ji12),(wrap64 (x8_1+1)),(by first|rfl|(simp;done)|(simp only[← hji12]<;>(first|rfl|simp))|(simp[*];done)),Yk,H',⟨by have:=HK1.out;omega⟩,⟨Ye BK157⟩,⟨Ya⟩⟩)))
      · have c4b0:=decide_eq_false c4
        clear c4;(obtain rfl:=Option.some.inj H);go_wp2;go_ret;(exact⟨Yl,Ya⟩)
def impl_DiameterOfDigraph.f (k:Nat) (a0_0:Int) (l0_1:List Int):Option (Int × Int):=(impl_IsDigraph.f a0_0 l0_1).bind fun t164=>(if t164=true then((impl_Digraph_diameter.f k a0_0 l0_1).bind fun t165=>(if t165<0 then(some (0,5))else(some (t165,0))))else(some (0,1)))
set_option maxHeartbeats 8000000 in
set_option maxRecDepth 100000 in
theorem impl_DiameterOfDigraph.calls (k:Nat) (a0_0:Int) (A0_1:Option Addr) (c0_1:Nat) (l0_1:List Int) (r1:Int) (r2:Int) (w:World) (hr0_1:Kd.C (Kd.int .i64) w A0_1 l0_1.length l0_1) (hc0_1:l0_1.length≤c0_1) (hT:TabW w) (h:impl_DiameterOfDigraph.f k a0_0 l0_1=some (r1,r2)) :
    Calls Tryd.prog 43 #[.agg #[.int .i64 a0_0,.slice A0_1 l0_1.length c0_1]] w fun e w'=>e=.returned (.tuple #[.int .i64 r1,.int .i64 r2])∧Below w.heap.size w w':=by
  (have hu43:=Tryd.underlying43);(have HT:=Aside0.mk hT);clear hT;(have HR0_1:=Aside0.mk hr0_1);(have HC0_1:=Aside0.mk hc0_1);clear hr0_1 hc0_1;(have HB:=Aside0.mk (Below.refl w.heap.size w));(have H:((impl_IsDigraph.f a0_0 l0_1).bind fun t164=>(if t164=true then((impl_Digraph_diameter.f k a0_0 l0_1).bind fun t165=>(if t165<0 then(some (0,5))else(some (t165,0))))else(some (0,1))))=some (r1,r2):=h);clear h;(replace H:=Yq H);(obtain⟨t164,A2,H⟩:=H);(by_cases c3:t164=true);(· subst c3;(replace H:=Ybt H);(replace H:=Yq H);(obtain⟨t165,A4,H⟩:=H);(replace H:=Yp H);(obtain⟨c5,H⟩|⟨c5,H⟩:=H);(· (have c5b0:=decide_eq_true c5);clear c5;(simp only[Option.some.injEq,Prod.mk.injEq]at H);(obtain⟨rfl,rfl⟩:=H);(go_enter Tryd.func43,Tryd.ntmps43);(go_wp2_with(first|(refine Y4 1 #[.int .i64 a0_0,.slice A0_1 l0_1.length c0_1] 43 ?_;intro gb163 hg w6 hbox hb;have BK163:=Aside0.mk (hbox);have GW163:=Yge HB hg;have GE163:=Yge HB hg;replace HB:=Aside0.mk (below_step (Ya) hb);clear hb hbox hg;obtain⟨hcz7_0,hcz7_1,hfz7_0,hfz7_1⟩:=Y2 BK163)|(refine Y5 28 (some 6) Tryd.func28 #[.agg #[.int .i64 a0_0,.slice A0_1 l0_1.length c0_1]] ?_;(with_reducible refine(impl_IsDigraph.calls a0_0 _ _ l0_1 true _ ?side1 ?side2 A2.out).mono ?_);(case side1=>exact Yg (Kd.C_below HR0_1.out HB.out));(case side2=>exact HC0_1.out);rintro e w8 ⟨rfl,hb⟩;refine⟨_,rfl,?_⟩;replace BK163:=Aside0.mk (blk_below (Ye BK163) hb);replace HB:=Aside0.mk (below_step (Ya) hb);clear hb;obtain⟨hcz9_0,hcz9_1,hfz9_0,hfz9_1⟩:=Y2 BK163)|(refine Y5 117 (some 9) Tryd.func117 #[.agg #[.int .i64 a0_0,.slice A0_1 l0_1.length c0_1]] ?_;(with_reducible refine(impl_Digraph_diameter.calls k a0_0 _ _ l0_1 t165 _ ?side1 ?side2 ?side3 A4.out).mono ?_);(case side1=>exact Yg (Kd.C_below HR0_1.out HB.out));(case side2=>exact HC0_1.out);(case side3=>exact TabW.below HT.out (Ya));rintro e w10 ⟨rfl,hb⟩;refine⟨_,rfl,?_⟩;replace BK163:=Aside0.mk (blk_below (Ye BK163) hb);replace HB:=Aside0.mk (below_step (Ya) hb);clear hb)));(go_ret2);(exact⟨Yl,Ya⟩));(· (have c5b0:=decide_eq_false c5);clear c5;(simp only[Option.some.injEq,Prod.mk.injEq]at H);(obtain⟨rfl,rfl⟩:=H);(go_enter Tryd.func43,Tryd.ntmps43);(go_wp2_with(first|(refine Y4 1 #[.int .i64 a0_0,.slice A0_1 l0_1.length c0_1] 43 ?_;intro gb163 hg w11 hbox hb;have BK163:=Aside0.mk (hbox);have GW163:=Yge HB hg;have GE163:=Yge HB hg;replace HB:=Aside0.mk (below_step (Ya) hb);clear hb hbox hg;obtain⟨hcz12_0,hcz12_1,hfz12_0,hfz12_1⟩:=Y2 BK163)|(refine Y5 28 (some 6) Tryd.func28 #[.agg #[.int .i64 a0_0,.slice A0_1 l0_1.length c0_1]] ?_;(with_reducible refine(impl_IsDigraph.calls a0_0 _ _ l0_1 true _ ?side1 ?side2 A2.out).mono ?_);(case side1=>exact Yg (Kd.C_below HR0_1.out HB.out));(case side2=>exact HC0_1.out);rintro e w13 ⟨rfl,hb⟩;refine⟨_,rfl,?_⟩;replace BK163:=Aside0.mk (blk_below (Ye BK163) hb);replace HB:=Aside0.mk (below_step (Ya) hb);clear hb;obtain⟨hcz14_0,hcz14_1,hfz14_0,hfz14_1⟩:=Y2 BK163)|(refine Y5 117 (some 9) Tryd.func117 #[.agg #[.int .i64 a0_0,.slice A0_1 l0_1.length c0_1]] ?_;(with_reducible refine(impl_Digraph_diameter.calls k a0_0 _ _ l0_1 t165 _ ?side1 ?side2 ?side3 A4.out).mono ?_);(case side1=>exact Yg (Kd.C_below HR0_1.out HB.out));(case side2=>exact HC0_1.out);(case side3=>exact TabW.below HT.out (Ya));rintro e w15 ⟨rfl,hb⟩;refine⟨_,rfl,?_⟩;replace BK163:=Aside0.mk (blk_below (Ye BK163) hb);replace HB:=Aside0.mk (below_step (Ya) hb);clear hb)));(go_ret2);(exact⟨Yl,Ya⟩)))
  · replace c3:=Bool.eq_false_iff.mpr c3
    subst c3;(replace H:=Ybf H);(simp only[Option.some.injEq,Prod.mk.injEq]at H);(obtain⟨rfl,rfl⟩:=H);(go_enter Tryd.func43,Tryd.ntmps43);(go_wp2_with(first|(refine Y4 1 #[.int .i64 a0_0,.slice A0_1 l0_1.length c0_1] 43 ?_;intro gb163 hg w16 hbox hb;have BK163:=Aside0.mk (hbox);have GW163:=Yge HB hg;have GE163:=Yge HB hg;replace HB:=Aside0.mk (below_step (Ya) hb);clear hb hbox hg;obtain⟨hcz17_0,hcz17_1,hfz17_0,hfz17_1⟩:=Y2 BK163)|(refine Y5 28 (some 6) Tryd.func28 #[.agg #[.int .i64 a0_0,.slice A0_1 l0_1.length c0_1]] ?_;(with_reducible refine(impl_IsDigraph.calls a0_0 _ _ l0_1 false _ ?side1 ?side2 A2.out).mono ?_);(case side1=>exact Yg (Kd.C_below HR0_1.out HB.out));(case side2=>exact HC0_1.out);rintro e w18 ⟨rfl,hb⟩;refine⟨_,rfl,?_⟩;replace BK163:=Aside0.mk (blk_below (Ye BK163) hb);replace HB:=Aside0.mk (below_step (Ya) hb);clear hb)));(go_ret2);(exact⟨Yl,Ya⟩)
end Go.Proofs.YtmofdldplbplbaaDoor.P
