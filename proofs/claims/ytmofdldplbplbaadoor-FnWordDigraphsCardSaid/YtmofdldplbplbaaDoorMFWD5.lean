-- Printed by a program of this workplace (wip/xp/xp.py), joined by wip/bin/mergeP.
import Derived.Test.YtmofdldplbplbaaDoorMFWD0
import Derived.Test.YtmofdldplbplbaaDoorMFWD4
import Derived.Test.YtmofdldplbplbaaDoorMFWD1
import Derived.Test.YtmofdldplbplbaaDoorMFWD3
namespace Go.Proofs.YtmofdldplbplbaaDoor.P
open Go.RowKit Go.Proofs.YtmofdldplbplbaaDoorW.PrintWords Go.Proofs.YtmofdldplbplbaaDoorW.PrintLast Go.Proofs.YtmofdldplbplbaaDoorW.PrintMore
attribute [local go_sem] max2_int min2_int max_two min_two max_three min_three max_four min_four
set_option linter.unusedVariables false
set_option linter.unusedSimpArgs false
mutual
def impl_kautzWords.l0:Nat→Int→List (List Int)→Int→Int→Option ((List (List Int)))
  |0,_,_,_,_=>none
  |k+1,x0,x5,x12,x13=>if x13<x12 then(impl_kautzWords.l1 k x0 (([]:List (List Int))) x12 x13 x5 (x5.length:Int) 0)else(some x5)
def impl_kautzWords.l1:Nat→Int→List (List Int)→Int→Int→List (List Int)→Int→Int→Option ((List (List Int)))
  |0,_,_,_,_,_,_,_=>none
  |k+1,x0,x6,x12,x13,x16,x17,x18=>if x18<x17 then(if 0≤x18 then(if x18<(x16.length:Int)then(impl_kautzWords.l2 k x0 x6 (rd_L2 x16 x18) x12 x13 x16 x17 x18 (wrap64 (x0+1)) 0)else(none))else(none))else(impl_kautzWords.l0 k x0 x6 x12 (wrap64 (x13+1)))
def impl_kautzWords.l2:Nat→Int→List (List Int)→List Int→Int→Int→List (List Int)→Int→Int→Int→Int→Option ((List (List Int)))
  |0,_,_,_,_,_,_,_,_,_,_=>none
  |k+1,x0,x6,x8,x12,x13,x16,x17,x18,x23,x24=>if x24<x23 then(if(x8.length:Int)=0 then((slices_Clone_int64_int64.f x8).bind fun t362=>(if t362.length<17592186044416 then(if x6.length<5864062014805 then(impl_kautzWords.l2 k x0 (x6++[(t362++[x24])]) x8 x12 x13 x16 x17 x18 x23 (wrap64 (x24+1)))else(none))else(none)))else(if 0≤(wrap64 ((x8.length:Int)-1))then(if(wrap64 ((x8.length:Int)-1))<(x8.length:Int)then(if(rd x8 (wrap64 ((x8.length:Int)-1)))=x24 then(impl_kautzWords.l2 k x0 x6 x8 x12 x13 x16 x17 x18 x23 (wrap64 (x24+1)))else((slices_Clone_int64_int64.f x8).bind fun t372=>(if t372.length<17592186044416 then(if x6.length<5864062014805 then(impl_kautzWords.l2 k x0 (x6++[(t372++[x24])]) x8 x12 x13 x16 x17 x18 x23 (wrap64 (x24+1)))else(none))else(none))))else(none))else(none)))else(impl_kautzWords.l1 k x0 x6 x12 x13 x16 x17 (wrap64 (x18+1)))
end
def impl_kautzWords.f (k:Nat) (a0:Int) (a1:Int):Option ((List (List Int))):=impl_kautzWords.l0 k a0 (([(([]:List Int))]:List (List Int))) a1 0
set_option maxHeartbeats 8000000 in
set_option maxRecDepth 100000 in
theorem impl_kautzWords.calls (k:Nat) (a0:Int) (a1:Int) (r:List (List Int)) (w:World) (h:impl_kautzWords.f k a0 a1=some r) :
    Calls Tryd.prog 147 #[.int .i64 a0,.int .i64 a1] w fun e w'=>∃v0_:Value,e=.returned (v0_)∧Kd.S (Kd.slice 2 (Kd.int .i64)) 24 w' w.heap.size (fun _=>True) v0_ r∧Below w.heap.size w w':=by
  have HB:=Aside0.mk (Below.refl w.heap.size w)
  have H':=Aside0.mk (show impl_kautzWords.l0 k a0 (([(([]:List Int))]:List (List Int))) a1 0=some r from h)
  clear h
  go_enter Tryd.func147,Tryd.ntmps147
  go_wp2_with(first|((with_reducible refine gate_dst (N:=10) rfl ?_);refine Kd.R_lit (Kd.int .i64) _ 2 ?hg (N:=10) ?hd (xs:=([]:List Int)) (inner:=[]) (ok:=fun _=>True) (okp:=fun _=>True) ?hr ?hp (fun _ hk=>hk) trivial (Below.refl _ _) (Nat.le_refl _) (by simp) ?_;(case hd=>rfl);(case hg=>rfl);(case hr=>first|(go_simp;done)|(go_simp;rfl));(case hp=>exact(Reps.none _ _));intro v237 w3 ho4 hb hg_ hnew_;clear hg_ hnew_;have n0_:=Aside0.mk (Kd.R_lower (Kd.R_tight rfl ho4) (below_size HB.out));have n1_:=Aside0.mk (below_step HB.out hb);clear HB;have HO1:=n0_;have HB:=n1_;clear n0_ n1_ hb ho4;obtain⟨Ao5,co5,eo5⟩:=Kd.R_slice HO1.out;subst eo5)|((with_reducible refine gate_dst (N:=11) rfl ?_);refine Kd.S_lits (Kd.slice 2 (Kd.int .i64)) (w0:=w) w.heap.size 24 ?hg (N:=11) ?hd (xs:=([[]]:List (List Int))) (inner:=[.slice Ao5 ([]:List Int).length co5]) (ok:=fun _=>True) (fun j k_=>j=0∧some k_=(.slice Ao5 ([]:List Int).length co5:Value).ownBlock) ?hr ?hl ?hp ?hap (fun _ _ _=>trivial) trivial HB.out (below_size HB.out) (by simp) ?_;(case hd=>rfl);(case hg=>rfl);(case hr=>first|(go_simp;done)|(go_simp;rfl));(case hl=>rfl);(case hap=>intro i j k_ h1 h2;exact h1.1.trans h2.1.symm);(case hp=>intro j x hj;cases j with|zero=>(obtain rfl:=Option.some.inj hj;exact⟨_,rfl,Kd.R_mono HO1.out (fun k_ hk=>⟨rfl,hk⟩)⟩)|succ j=>cases hj);intro v238 w4 ho5 hb hg_ hnew_;clear hg_ hnew_ HB HO1;have HB:=Aside0.mk hb;have HO:=Aside0.mk ho5;clear hb ho5))
  go_loopg[5,13] k (fun kq v5 v13 w'=>∃(x5_1:List (List Int)) (x13_1:Int),v13=.int .i64 x13_1∧Aside0 (impl_kautzWords.l0 kq a0 x5_1 a1 x13_1=some r)∧Aside0 (kq≤k)∧Aside0 (Kd.S (Kd.slice 2 (Kd.int .i64)) 24 w' w.heap.size (fun _=>True) v5 x5_1)∧Aside0 (Below w.heap.size w w'))
  case atStart=>exact⟨_,0,(by first|rfl|(simp;done)|(simp[*];done)),H',⟨Nat.le_refl _⟩,HO,HB⟩
  case round=>
    clear H' HO HB
    obtain⟨x5_1,x13_1,rfl,HA,HK1,HO_5,HBo⟩:=hrel
    obtain⟨wo,rfl⟩:∃wo,wo=wr:=⟨_,rfl⟩
    obtain⟨Ao,co,rfl⟩:=Kd.S_slice HO_5.out
    cases gk with
    |zero=>exact absurd HA.out (by simp[impl_kautzWords.l0])
    |succ k1=>
      have H:=HA.out
      clear HA
      simp only[impl_kautzWords.l0]at H
      by_cases c8:x13_1<a1
      · rw[if_pos c8]at H
        have c8b0:decide (x13_1<a1)=true:=decide_eq_true c8
        clear c8
        have H':=Aside0.mk H
        clear H
        have HX:=Aside0.mk (Kd.S_reads' HO_5.out).2.2
        have HXl:=Aside0.mk (Kd.S_reads' HO_5.out).2.1
        go_wp2_with((with_reducible refine gate_dst (N:=15) rfl ?_);refine Kd.S_lit (Kd.slice 2 (Kd.int .i64)) _ 24 ?hg (N:=15) ?hd (xs:=([]:List (List Int))) (inner:=[]) (ok:=fun _=>True) (okp:=fun _=>True) ?hr ?hp (fun _ hk=>hk) trivial (Below.refl _ _) (Nat.le_refl _) (by simp) ?_;(case hd=>rfl);(case hg=>rfl);(case hr=>first|(go_simp;done)|(go_simp;rfl));(case hp=>exact(Reps.none _ _));intro v243 w9 ho10 hb hg_ hnew_;clear hg_ hnew_;have HO:=Aside0.mk ho10;have HB:=Aside0.mk hb;clear ho10 hb)
        go_loopg[6,18] k1 (fun kq v6 v18 w'=>∃(x6_2:List (List Int)) (x18_2:Int),v18=.int .i64 x18_2∧Aside0 (impl_kautzWords.l1 kq a0 x6_2 a1 x13_1 x5_1 (x5_1.length:Int) x18_2=some r)∧Aside0 (kq≤k1)∧Aside0 (Kd.S (Kd.slice 2 (Kd.int .i64)) 24 w' wo.heap.size (fun _=>True) v6 x6_2)∧Aside0 (Below wo.heap.size wo w'))
        case atStart=>exact⟨_,0,(by first|rfl|(simp;done)|(simp[*];done)),H',⟨Nat.le_refl _⟩,HO,HB⟩
        case round=>
          clear H' HO HB c8b0
          obtain⟨x6_2,x18_2,rfl,HA,HK2,HO_6,HB⟩:=hrel
          cases gk with
          |zero=>exact absurd HA.out (by simp[impl_kautzWords.l1])
          |succ k2=>
            have H:=HA.out
            clear HA
            simp only[impl_kautzWords.l1]at H
            by_cases c12:x18_2<(x5_1.length:Int)
            · rw[if_pos c12]at H
              have c12b0:decide (x18_2<(x5_1.length:Int))=true:=decide_eq_true c12
              by_cases c13:0≤x18_2
              · rw[if_pos c13,if_pos c12]at H
                have H':=Aside0.mk H
                clear H
                obtain⟨ad,A8,c8,e8,hx,hl,hi⟩:=at_L2 HX.out x18_2 c13 c12
                cases e8
                have hx':=(HB.out.cell (World.block_lt_of_cell? wo _ hx)).trans hx
                have HT:=Aside0.mk hi
                have HTl:=Aside0.mk hl
                clear hi hl hx
                replace c12:=eq_true c12
                replace c13:=eq_true c13
                go_wp2
                go_loopg[6,24] k2 (fun kq v6 v24 w'=>∃(x6_3:List (List Int)) (x24_3:Int),v24=.int .i64 x24_3∧Aside0 (impl_kautzWords.l2 kq a0 x6_3 (rd_L2 x5_1 x18_2) a1 x13_1 x5_1 (x5_1.length:Int) x18_2 (wrap64 (a0+1)) x24_3=some r)∧Aside0 (kq≤k2)∧Aside0 (Kd.S (Kd.slice 2 (Kd.int .i64)) 24 w' wo.heap.size (fun _=>True) v6 x6_3)∧Aside0 (Below wo.heap.size wo w'))
                case atStart=>exact⟨_,0,(by first|rfl|(simp;done)|(simp[*];done)),H',⟨Nat.le_refl _⟩,HO_6,HB⟩
                case round=>
                  clear H' HO_6 HB c12 c13 c12b0 hx'
                  obtain⟨x6_3,x24_3,rfl,HA,HK3,HO_6,HB⟩:=hrel
                  obtain⟨wi,rfl⟩:∃wi,wi=wr:=⟨_,rfl⟩
                  cases gk with
                  |zero=>exact absurd HA.out (by simp[impl_kautzWords.l2])
                  |succ k3=>
                    have H:=HA.out
                    clear HA
                    simp only[impl_kautzWords.l2]at H
                    by_cases c15:x24_3<(wrap64 (a0+1))
                    · rw[if_pos c15]at H
                      have c15b0:decide (x24_3<(wrap64 (a0+1)))=true:=decide_eq_true c15
                      clear c15
                      by_cases c16:((rd_L2 x5_1 x18_2).length:Int)=0
                      · rw[if_pos c16]at H
                        have c16b0:(((rd_L2 x5_1 x18_2).length:Int)==0)=true:=beq_iff_eq.mpr c16
                        have c16b1:(((rd_L2 x5_1 x18_2).length:Int)!=0)=false:=bne_eq_false_iff_eq.mpr c16
                        clear c16
                        obtain⟨tc,A17,H⟩:=Option.bind_eq_some_iff.mp H
                        by_cases c18:tc.length<17592186044416
                        case neg=>rw[if_neg c18]at H;cases H
                        case pos=>
                        rw[if_pos c18]at H
                        by_cases c19:x6_3.length<5864062014805
                        case neg=>rw[if_neg c19]at H;cases H
                        case pos=>
                        rw[if_pos c19]at H
                        obtain⟨y1,hy1⟩:∃y_:List Int,y_=tc++[x24_3]:=⟨_,rfl⟩
                        rw[← hy1]at H
                        have Ny:=Aside0.mk hy1
                        clear hy1
                        have H':=Aside0.mk H
                        have HAc:=Aside0.mk A17
                        have LM1:=Aside0.mk c18
                        have LM2:=Aside0.mk c19
                        clear H A17 c18 c19
                        go_wp2_with(first|((with_reducible refine gate_callee (f:=112) rfl ?_);refine goesL_ (some 42) rfl rfl Tryd.func112 (by kernel_rfl) rfl #[.slice A8 (rd_L2 x5_1 x18_2).length c8] rfl (by(try simp only[List.map_toArray,List.map_cons,List.map_nil]);first|done|rfl|(simp only[List.length_drop,List.length_take];rfl)) ?_;(with_reducible refine(slices_Clone_int64_int64.calls _ _ (rd_L2 x5_1 x18_2) tc _ ?side1 ?side2 HAc.out).mono ?_);(case side1=>exact Kd.C_below HT.out HB.out);(case side2=>exact HTl.out);rintro e w20 ⟨v190,rfl,ho0,hb⟩;refine⟨_,rfl,?_⟩;have n0_:=Aside0.mk (Kd.S_mono (ok':=fun k_=>k_<wi.heap.size) (Kd.S_below (Kd.S_bound HO_6.out) hb) (fun k_ hk=>hk.2.2.1));have n1_:=Aside0.mk (Kd.R_lower ho0 (below_size HB.out));have n2_:=Aside0.mk (Kd.R_base ho0);have n3_:=Aside0.mk (below_step HB.out hb);have n4_:=Aside0.mk hb.size;clear HO_6 HB;have HS1:=n0_;have HC1:=n1_;have HC1B:=n2_;have HB:=n3_;have HSZ:=n4_;clear n0_ n1_ n2_ n3_ n4_ hb ho0)|((with_reducible refine gate_builtin (b:=.append) (xs:=#[.tmp 42,.tmp 44]) rfl ?_);at_builtin;refine Kd.R_append (Kd.int .i64) (w0:=wo) wo.heap.size rfl (.tmp 42) (.tmp 44) 24 2 (.int .i64 0) 8 rfl Tryd.underlying24 info2 rfl (by decide) (by omega) v190 tc x24_3 [.int .i64 x24_3] (fun _=>True) (fun _=>False) rfl rfl ?aP (fun _ hk=>hk.elim) ?aF ?aO ?aB ?aS ?aL ?_;(case aP=>exact rfl);(case aB=>exact(by repeat(first|(with_reducible first|exact HB.out|apply below_alloc|apply pw_below_drewN|apply below_drew1)|exact HB.out)));(case aF=>exact(fun _ _=>trivial));(case aO=>exact Kd.R_mono HC1.out (fun _ _=>trivial));(case aS=>exact(below_size (by repeat(first|(with_reducible first|exact HB.out|apply below_alloc|apply pw_below_drewN|apply below_drew1)|exact HB.out))));(case aL=>have:=LM1.out;omega);intro v193 w21 ho hb hg hat;rw[← Ny.out]at ho;have n0_:=Aside0.mk (Kd.S_grown HS1.out hg (fun k_ hk e_=>by have:=HC1B.out k_ e_.symm;omega));have n1_:=Aside0.mk (Kd.R_tight rfl ho);have n2_:=Aside0.mk (show ∀k_,v193.ownBlock=some k_→wi.heap.size≤k_ from fun k_ e_=>hat.elim (fun h_=>HC1B.out k_ (h_.symm.trans e_)) (fun h_=>by obtain⟨b_,hb1,hb2⟩:=h_;have:=Option.some.inj (hb1.symm.trans e_);have:=HSZ.out;omega));have n3_:=Aside0.mk hb;clear HS1 HC1 HC1B HB;have HS1:=n0_;have HE:=n1_;have HEB:=n2_;have HB:=n3_;clear n0_ n1_ n2_ n3_ ho hb hg hat;obtain⟨Ao23,co23,eo23⟩:=Kd.R_slice HE.out;subst eo23)|((with_reducible refine gate_builtin (b:=.append) (xs:=#[.tmp 40,.tmp 46]) rfl ?_);at_builtin;refine Kd.S_append (Kd.slice 2 (Kd.int .i64)) (w0:=wo) wo.heap.size rfl (.tmp 40) (.tmp 46) 49 24 (.slice none 0 0) 24 rfl Tryd.underlying49 info24 rfl (by decide) (by omega) u6 x6_3 y1 [.slice Ao23 y1.length co23] (fun _=>True) (fun k_=>some k_=(.slice Ao23 y1.length co23:Value).ownBlock) rfl rfl ?aP (fun k_ hk=>⟨trivial,fun e_=>by have h1:=(Kd.S_R HS1.out).1 k_ e_.symm;have h2:=HEB.out k_ hk.symm;omega⟩) ?aF ?aO ?aB ?aS ?aL ?_;(case aP=>exact Kd.M_row HE.out);(case aB=>exact(by repeat(first|(with_reducible first|exact HB.out|apply below_alloc|apply pw_below_drewN|apply below_drew1)|exact HB.out)));(case aF=>exact(fun _ _=>trivial));(case aO=>exact Kd.S_mono HS1.out (fun k_ hk=>⟨trivial,fun e_=>by have:=HEB.out k_ e_.symm;omega⟩));(case aS=>exact(below_size (by repeat(first|(with_reducible first|exact HB.out|apply below_alloc|apply pw_below_drewN|apply below_drew1)|exact HB.out))));(case aL=>have:=LM2.out;omega);intro v195 w22 ho hb hg hat;have n0_:=Aside0.mk ho;have n1_:=Aside0.mk hb;clear HS1 HE HEB HB;have HO_6:=n0_;have HB:=n1_;clear n0_ n1_ ho hb hg hat))
                        go_roundg k3
                        case measure=>have:=HK3.out;omega
                        case rel=>exact⟨_,(wrap64 (x24_3+1)),(by first|rfl|(simp;done)|(simp[*];done)),H',⟨by have:=HK3.out;omega⟩,HO_6,HB⟩
                      · rw[if_neg c16]at H
                        have c16b0:(((rd_L2 x5_1 x18_2).length:Int)==0)=false:=beq_eq_false_iff_ne.mpr c16
                        have c16b1:(((rd_L2 x5_1 x18_2).length:Int)!=0)=true:=bne_iff_ne.mpr c16
                        have c16b2:¬((rd_L2 x5_1 x18_2)=[]):=fun h_=>c16 (by rw[h_];rfl)
                        obtain⟨ji,hji⟩:∃j_:Int,(wrap64 (((rd_L2 x5_1 x18_2).length:Int)-1))=j_:=⟨_,rfl⟩
                        rw[hji]at H
                        have hjiw:(IntKind.i64.wrap (((rd_L2 x5_1 x18_2).length:Int)-1))=ji:=(i64_w _).trans hji
                        clear c16
                        by_cases c25:0≤ji
                        case neg=>rw[if_neg c25]at H;cases H
                        case pos=>
                        rw[if_pos c25]at H
                        by_cases c26:ji<((rd_L2 x5_1 x18_2).length:Int)
                        case neg=>rw[if_neg c26]at H;cases H
                        case pos=>
                        rw[if_pos c26]at H
                        obtain⟨ad2,e2,hx2⟩:=Kd.at_int (Kd.C_below HT.out HB.out) ji c25 c26
                        cases e2
                        have c25b0:decide (0≤ji)=true:=decide_eq_true c25
                        have c26b0:decide (ji<((rd_L2 x5_1 x18_2).length:Int))=true:=decide_eq_true c26
                        replace c25:=eq_true c25
                        replace c26:=eq_true c26
                        by_cases c27:rd (rd_L2 x5_1 x18_2) ji=x24_3
                        · rw[if_pos c27]at H
                          have c27b0:((rd (rd_L2 x5_1 x18_2) ji)==x24_3)=true:=beq_iff_eq.mpr c27
                          have c27b1:((rd (rd_L2 x5_1 x18_2) ji)!=x24_3)=false:=bne_eq_false_iff_eq.mpr c27
                          clear c27
                          have H':=Aside0.mk H
                          clear H
                          go_wp2
                          go_roundg k3
                          case measure=>have:=HK3.out;omega
                          case rel=>exact⟨_,(wrap64 (x24_3+1)),(by first|rfl|(simp;done)|(simp[*];done)),H',⟨by have:=HK3.out;omega⟩,HO_6,HB⟩
                        · rw[if_neg c27]at H
                          have c27b0:((rd (rd_L2 x5_1 x18_2) ji)==x24_3)=false:=beq_eq_false_iff_ne.mpr c27
                          have c27b1:((rd (rd_L2 x5_1 x18_2) ji)!=x24_3)=true:=bne_iff_ne.mpr c27
                          clear c27
                          obtain⟨tc,A17,H⟩:=Option.bind_eq_some_iff.mp H
                          by_cases c18:tc.length<17592186044416
                          case neg=>rw[if_neg c18]at H;cases H
                          case pos=>
                          rw[if_pos c18]at H
                          by_cases c19:x6_3.length<5864062014805
                          case neg=>rw[if_neg c19]at H;cases H
                          case pos=>
                          rw[if_pos c19]at H
                          obtain⟨y1,hy1⟩:∃y_:List Int,y_=tc++[x24_3]:=⟨_,rfl⟩
                          rw[← hy1]at H
                          have Ny:=Aside0.mk hy1
                          clear hy1
                          have H':=Aside0.mk H
                          have HAc:=Aside0.mk A17
                          have LM1:=Aside0.mk c18
                          have LM2:=Aside0.mk c19
                          clear H A17 c18 c19
                          go_wp2_with(first|((with_reducible refine gate_callee (f:=112) rfl ?_);refine goesL_ (some 42) rfl rfl Tryd.func112 (by kernel_rfl) rfl #[.slice (some ad2) (rd_L2 x5_1 x18_2).length c8] rfl (by(try simp only[List.map_toArray,List.map_cons,List.map_nil]);first|done|rfl|(simp only[List.length_drop,List.length_take];rfl)) ?_;(with_reducible refine(slices_Clone_int64_int64.calls _ _ (rd_L2 x5_1 x18_2) tc _ ?side1 ?side2 HAc.out).mono ?_);(case side1=>exact Kd.C_below HT.out HB.out);(case side2=>exact HTl.out);rintro e w20 ⟨v190,rfl,ho0,hb⟩;refine⟨_,rfl,?_⟩;have n0_:=Aside0.mk (Kd.S_mono (ok':=fun k_=>k_<wi.heap.size) (Kd.S_below (Kd.S_bound HO_6.out) hb) (fun k_ hk=>hk.2.2.1));have n1_:=Aside0.mk (Kd.R_lower ho0 (below_size HB.out));have n2_:=Aside0.mk (Kd.R_base ho0);have n3_:=Aside0.mk (below_step HB.out hb);have n4_:=Aside0.mk hb.size;clear HO_6 HB;have HS1:=n0_;have HC1:=n1_;have HC1B:=n2_;have HB:=n3_;have HSZ:=n4_;clear n0_ n1_ n2_ n3_ n4_ hb ho0)|((with_reducible refine gate_builtin (b:=.append) (xs:=#[.tmp 42,.tmp 44]) rfl ?_);at_builtin;refine Kd.R_append (Kd.int .i64) (w0:=wo) wo.heap.size rfl (.tmp 42) (.tmp 44) 24 2 (.int .i64 0) 8 rfl Tryd.underlying24 info2 rfl (by decide) (by omega) v190 tc x24_3 [.int .i64 x24_3] (fun _=>True) (fun _=>False) rfl rfl ?aP (fun _ hk=>hk.elim) ?aF ?aO ?aB ?aS ?aL ?_;(case aP=>exact rfl);(case aB=>exact(by repeat(first|(with_reducible first|exact HB.out|apply below_alloc|apply pw_below_drewN|apply below_drew1)|exact HB.out)));(case aF=>exact(fun _ _=>trivial));(case aO=>exact Kd.R_mono HC1.out (fun _ _=>trivial));(case aS=>exact(below_size (by repeat(first|(with_reducible first|exact HB.out|apply below_alloc|apply pw_below_drewN|apply below_drew1)|exact HB.out))));(case aL=>have:=LM1.out;omega);intro v193 w21 ho hb hg hat;rw[← Ny.out]at ho;have n0_:=Aside0.mk (Kd.S_grown HS1.out hg (fun k_ hk e_=>by have:=HC1B.out k_ e_.symm;omega));have n1_:=Aside0.mk (Kd.R_tight rfl ho);have n2_:=Aside0.mk (show ∀k_,v193.ownBlock=some k_→wi.heap.size≤k_ from fun k_ e_=>hat.elim (fun h_=>HC1B.out k_ (h_.symm.trans e_)) (fun h_=>by obtain⟨b_,hb1,hb2⟩:=h_;have:=Option.some.inj (hb1.symm.trans e_);have:=HSZ.out;omega));have n3_:=Aside0.mk hb;clear HS1 HC1 HC1B HB;have HS1:=n0_;have HE:=n1_;have HEB:=n2_;have HB:=n3_;clear n0_ n1_ n2_ n3_ ho hb hg hat;obtain⟨Ao23,co23,eo23⟩:=Kd.R_slice HE.out;subst eo23)|((with_reducible refine gate_builtin (b:=.append) (xs:=#[.tmp 40,.tmp 46]) rfl ?_);at_builtin;refine Kd.S_append (Kd.slice 2 (Kd.int .i64)) (w0:=wo) wo.heap.size rfl (.tmp 40) (.tmp 46) 49 24 (.slice none 0 0) 24 rfl Tryd.underlying49 info24 rfl (by decide) (by omega) u6 x6_3 y1 [.slice Ao23 y1.length co23] (fun _=>True) (fun k_=>some k_=(.slice Ao23 y1.length co23:Value).ownBlock) rfl rfl ?aP (fun k_ hk=>⟨trivial,fun e_=>by have h1:=(Kd.S_R HS1.out).1 k_ e_.symm;have h2:=HEB.out k_ hk.symm;omega⟩) ?aF ?aO ?aB ?aS ?aL ?_;(case aP=>exact Kd.M_row HE.out);(case aB=>exact(by repeat(first|(with_reducible first|exact HB.out|apply below_alloc|apply pw_below_drewN|apply below_drew1)|exact HB.out)));(case aF=>exact(fun _ _=>trivial));(case aO=>exact Kd.S_mono HS1.out (fun k_ hk=>⟨trivial,fun e_=>by have:=HEB.out k_ e_.symm;omega⟩));(case aS=>exact(below_size (by repeat(first|(with_reducible first|exact HB.out|apply below_alloc|apply pw_below_drewN|apply below_drew1)|exact HB.out))));(case aL=>have:=LM2.out;omega);intro v195 w22 ho hb hg hat;have n0_:=Aside0.mk ho;have n1_:=Aside0.mk hb;clear HS1 HE HEB HB;have HO_6:=n0_;have HB:=n1_;clear n0_ n1_ ho hb hg hat))
                          go_roundg k3
                          case measure=>have:=HK3.out;omega
                          case rel=>exact⟨_,(wrap64 (x24_3+1)),(by first|rfl|(simp;done)|(simp[*];done)),H',⟨by have:=HK3.out;omega⟩,HO_6,HB⟩
                    · rw[if_neg c15]at H
                      have c15b0:decide (x24_3<(wrap64 (a0+1)))=false:=decide_eq_false c15
                      clear c15
                      have H':=Aside0.mk H
                      clear H
                      go_wp2
                      go_roundg k3
                      case measure=>have:=HK3.out;omega
                      case rel=>exact⟨_,(wrap64 (x18_2+1)),(by first|rfl|(simp;done)|(simp[*];done)),H',⟨by have:=HK3.out;have:=HK2.out;omega⟩,HO_6,HB⟩
              · rw[if_neg c13]at H
                cases H
            · rw[if_neg c12]at H
              have c12b0:decide (x18_2<(x5_1.length:Int))=false:=decide_eq_false c12
              clear c12
              have H':=Aside0.mk H
              clear H
              go_wp2
              go_roundg k2
              case measure=>have:=HK2.out;omega
              case rel=>exact⟨_,(wrap64 (x13_1+1)),(by first|rfl|(simp;done)|(simp[*];done)),H',⟨by have:=HK1.out;have:=HK2.out;omega⟩,⟨Kd.S_lower HO_6.out (below_size HBo.out)⟩,⟨below_then HBo.out (below_size HBo.out) HB.out⟩⟩
      · rw[if_neg c8]at H
        have c8b0:decide (x13_1<a1)=false:=decide_eq_false c8
        clear c8
        obtain rfl:=Option.some.inj H
        go_wp2
        go_ret
        exact⟨_,rfl,HO_5.out,HBo.out⟩
def impl_kautz.is (k:Nat) (m:Int) (l:List (List Int)) (v u:Int):Option Bool:=if 0≤v then(if v<(l.length:Int)then(if 1≤m then(if m≤((rd_L2 l v).length:Int)then(if 0≤u then(if u<(l.length:Int)then(if m≤((rd_L2 l u).length:Int)then((slices_Equal_int64_int64.f k ((rd_L2 l v).drop 1) ((rd_L2 l u).take (m-1).toNat)).bind fun e=>some (e&&(rd (rd_L2 l v) (m-1)!=rd (rd_L2 l u) (m-1))))else none)else none)else none)else none)else none)else none)else none
set_option maxHeartbeats 4000000 in
theorem impl_kautz.lit (k:Nat) (m:Int) (A:Option Addr) (c:Nat) (l:List (List Int)) (g g2:Nat) (v u:Int) (b:Bool) (W:World) (hB:W.heap[g]? =some (.cells #[.slice A l.length c] 49 (0,0))) (hB2:W.heap[g2]? =some (.cells #[.int .i64 m] 2 (0,0)))
    (hr:Kd.C (Kd.slice 2 (Kd.int .i64)) W A l.length l) (h:impl_kautz.is k m l v u=some b) :
    Calls Tryd.prog 189 #[.int .i64 v,.int .i64 u,.pointer (some ⟨g,0,none⟩),.pointer (some ⟨g2,0,none⟩)] W fun e w'=>e=.returned (.bool b)∧Below W.heap.size W w':=by
  have hx0:W.cell? ⟨g,0,none⟩=some (.slice A l.length c):=(blk_cell hB 0).trans rfl
  have hx9:W.cell? ⟨g2,0,none⟩=some (.int .i64 m):=(blk_cell hB2 0).trans rfl
  clear hB hB2
  unfold impl_kautz.is at h
  split at h
  case isFalse=>cases h
  case isTrue p0=>
  split at h
  case isFalse=>cases h
  case isTrue p1=>
  split at h
  case isFalse=>cases h
  case isTrue pm=>
  split at h
  case isFalse=>cases h
  case isTrue p2=>
  split at h
  case isFalse=>cases h
  case isTrue p3=>
  split at h
  case isFalse=>cases h
  case isTrue p4=>
  split at h
  case isFalse=>cases h
  case isTrue p5=>
  obtain⟨ad,A0,c0,ea,hx1,hl1,hi1⟩:=at_L2 hr v p0 p1
  obtain⟨ad',A1,c1,ea',hx2,hl2,hi2⟩:=at_L2 hr u p3 p4
  cases ea
  cases ea'
  obtain⟨x,hx_⟩:∃x,rd_L2 l v=x:=⟨_,rfl⟩
  obtain⟨y,hy_⟩:∃y,rd_L2 l u=y:=⟨_,rfl⟩
  rw[hx_]at h hx1 hl1 hi1 p2
  rw[hy_]at h hx2 hl2 hi2 p5
  clear hx_ hy_ hr
  obtain⟨e,he,h⟩:=Option.bind_eq_some_iff.mp h
  obtain rfl:=Option.some.inj h
  have H:=Aside0.mk he
  clear h he
  obtain⟨ad0,e0,hxa⟩:=Kd.at_int hi1 (m-1) (by omega) (by omega)
  obtain⟨ad1,e1,hya⟩:=Kd.at_int hi2 (m-1) (by omega) (by omega)
  cases e0
  cases e1
  have eP:(some ad0).map (fun x=>x.add (1*(Kd.int .i64).sz))=some ({block:=ad0.block,off:=ad0.off+1}:Addr):=rfl
  have D1_:=Kd.C_drop hi1 (m:=1) (by omega) hl1
  rw[eP]at D1_
  have D1:=Aside0.mk D1_
  clear eP D1_
  have e1:x.length-1=(x.drop 1).length:=List.length_drop.symm
  have e2:m.toNat-1=(y.take (m-1).toNat).length:=by rw[List.length_take];omega
  have E1:=Aside0.mk e1
  have E2:=Aside0.mk e2
  clear e1 e2
  have hm2:=hi2.2.1
  have D2:=Aside0.mk (Kd.C_take hi2 (m:=(m-1).toNat) (by omega))
  have HL1:=Aside0.mk hl1
  have HL2:=Aside0.mk hl2
  have P2:=Aside0.mk p2
  have P5:=Aside0.mk p5
  have PM:=Aside0.mk pm
  clear hi1 hi2
  have hc0:(x.length:Int)≤(c0:Int):=by omega
  have hc1:(y.length:Int)≤(c1:Int):=by omega
  have w5:IntKind.i64.wrap (m-1)=m-1:=by rw[IntKind.wrap_i64];omega
  clear hm2
  have z1:(1:Int)≤(x.length:Int):=by omega
  have z2:0≤m-1:=by omega
  have z3:m-1≤(y.length:Int):=by omega
  have z4:m-1≤(c1:Int):=by omega
  have z6:(m-1<(x.length:Int))=True:=eq_true (by omega)
  have z7:(m-1<(y.length:Int))=True:=eq_true (by omega)
  obtain⟨px,hpx⟩:∃z,rd x (m-1)=z:=⟨_,rfl⟩
  obtain⟨py,hpy⟩:∃z,rd y (m-1)=z:=⟨_,rfl⟩
  rw[show(m-1).toNat=m.toNat-1 by omega]at hxa hya
  rw[hpx]at hxa
  rw[hpy]at hya
  rw[hpx,hpy]
  clear hpx hpy
  replace p0:=eq_true p0
  replace p1:=eq_true p1
  replace p3:=eq_true p3
  replace p4:=eq_true p4
  clear hl1 hl2 p2 p5 pm
  cases e with
  |true=>
    go_enter Tryd.func189,Tryd.ntmps189
    go_wp2_with fail
    go_quiet((go_at_call 190;rw[E1.out];(try(conv=>{arg 3;rw[E2.out]}));refine Calls.quiet_of ((slices_Equal_int64_int64.calls k _ _ (x.drop 1) _ _ (y.take (m-1).toNat) _ _ (Kd.C_drewN D1.out _) (by have:=HL1.out;rw[List.length_drop];omega) (Kd.C_drewN D2.out _) (by have:=HL2.out;have:=PM.out;have:=P5.out;rw[List.length_take];omega) H.out).mono fun e w' ⟨he,hd⟩=>⟨he,hd.out⟩)))
    go_wp2
    all_goals(go_ret;exact⟨by first|rfl|(simp;done)|(simp[*];done),by first|exact Below.refl _ _|exact below_drew (Below.refl _ _)|exact pw_below_drewN (Below.refl _ _) _⟩)
  |false=>
    go_enter Tryd.func189,Tryd.ntmps189
    go_wp2_with fail
    go_quiet((go_at_call 190;rw[E1.out];(try(conv=>{arg 3;rw[E2.out]}));refine Calls.quiet_of ((slices_Equal_int64_int64.calls k _ _ (x.drop 1) _ _ (y.take (m-1).toNat) _ _ (Kd.C_drewN D1.out _) (by have:=HL1.out;rw[List.length_drop];omega) (Kd.C_drewN D2.out _) (by have:=HL2.out;have:=PM.out;have:=P5.out;rw[List.length_take];omega) H.out).mono fun e w' ⟨he,hd⟩=>⟨he,hd.out⟩)))
    go_wp2
    all_goals(go_ret;exact⟨by first|rfl|(simp;done)|(simp[*];done),by first|exact Below.refl _ _|exact below_drew (Below.refl _ _)|exact pw_below_drewN (Below.refl _ _) _⟩)
def impl_kautz.f (k:Nat) (a0:Int) (a1:Int):Option (Int × List Int):=(impl_kautzWords.f k a0 a1).bind fun l0=>(impl_directed.f (impl_kautz.is k a1 l0) k (l0.length:Int)).bind fun bt=>some (bt.1,bt.2)
set_option maxHeartbeats 8000000 in
set_option maxRecDepth 100000 in
theorem impl_kautz.calls (k:Nat) (a0:Int) (a1:Int) (r1:Int) (r2:List Int) (w:World) (h:impl_kautz.f k a0 a1=some (r1,r2)) :
    Calls Tryd.prog 143 #[.int .i64 a0,.int .i64 a1] w fun e w'=>∃v1_:Value,e=.returned (.agg #[.int .i64 r1,v1_])∧Kd.R (Kd.int .i64) 2 w' w.heap.size (fun _=>True) v1_ r2∧Below w.heap.size w w':=by
  have hu:=Tryd.underlying43
  unfold impl_kautz.f at h
  obtain⟨es,A1,h⟩:=Option.bind_eq_some_iff.mp h
  obtain⟨⟨t1,t2⟩,hd,h⟩:=Option.bind_eq_some_iff.mp h
  obtain⟨rfl,rfl⟩:t1=r1∧t2=r2:=by simpa using h
  clear h
  have HA1:=Aside0.mk A1
  have HD:=Aside0.mk hd
  clear A1 hd
  have HB:=Aside0.mk (((Below.refl w.heap.size w).alloc (Nat.le_refl _) (.cells #[.int .i64 a1] 2)).alloc (by simp) (.cells #[.int .i64 0,.slice none 0 0] 43))
  go_enter Tryd.func143,Tryd.ntmps143
  go_wp2_with fail
  refine(impl_kautzWords.calls k a0 a1 es _ HA1.out).mono ?_
  rintro e w2 ⟨v0,rfl,hN,hb⟩
  obtain⟨Ao,co,rfl⟩:=Kd.S_slice hN
  have BKk:=Aside0.mk (blk_below (g:=w.heap.size) (o:=.cells #[.int .i64 a1] 2 (0,0)) (blk_alloc (blk_new w _) (.cells #[.int .i64 0,.slice none 0 0] 43)) hb)
  have BKr:=Aside0.mk (blk_below (g:=w.heap.size+1) (o:=.cells #[.int .i64 0,.slice none 0 0] 43 (0,0)) (by have:=blk_new (w.alloc (.cells #[.int .i64 a1] 2)) (.cells #[.int .i64 0,.slice none 0 0] 43);simpa using this) hb)
  have HBB:=Aside0.mk (below_then HB.out (by simp;omega) hb)
  have HN:=Aside0.mk hN
  clear hN hb HB
  have h2:=below_size HBB.out
  have HK:=fun W hq=>impl_directed.calls (impl_kautz.is k a1 es) 189 #[.pointer (some ⟨w2.heap.size,0,none⟩),.pointer (some ⟨w.heap.size,0,none⟩)] (enters_of Tryd.func189 (by kernel_rfl) rfl) k (es.length:Int) t1 t2 W hq HD.out
  go_wp2_with fail
  refine(HK _ ?hq).mono ?_
  case hq=>
    intro x y b W hb hxy
    exact impl_kautz.lit k a1 Ao co es w2.heap.size w.heap.size x y b W (blk_below (blk_new w2 (.cells #[.slice Ao es.length co] 49)) hb) (blk_below (blk_alloc BKk.out (.cells #[.slice Ao es.length co] 49)) hb) (Kd.C_below (Kd.C_alloc (Kd.S_reads' HN.out).2.2 (.cells #[.slice Ao es.length co] 49)) hb) hxy
  rintro e w3 ⟨v1,rfl,hR,hb⟩
  have BK:=Aside0.mk (blk_below (blk_alloc BKr.out (.cells #[.slice Ao es.length co] 49)) hb)
  have HB3:=Aside0.mk (below_then (below_alloc HBB.out (.cells #[.slice Ao es.length co] 49)) (by simp;omega) hb)
  have HO:=Aside0.mk (Kd.R_lower (base':=w.heap.size) hR (by simp;omega))
  clear hR hb HBB HN BKr BKk HK HD
  obtain⟨Ap,cp,ep⟩:=Kd.R_slice HO.out
  subst ep
  have hcz0:w3.cell? ⟨w.heap.size+1,0,none⟩=some (.int .i64 0):=(blk_cell BK.out 0).trans rfl
  have hcz1:w3.cell? ⟨w.heap.size+1,1,none⟩=some (.slice none 0 0):=(blk_cell BK.out 1).trans rfl
  have hfz0:=blk_frozen BK.out 0
  have hfz1:=blk_frozen BK.out 1
  go_wp2
  refine bodyPost_ret (results_cell_row rfl _ _ (w.heap.size+1) 43 #[.int .i64 t1,.slice Ap t2.length cp] (0,0) _ rfl (by refine blk_put (cs:=#[.int .i64 t1,.slice none 0 0]) ?_ 1 _ rfl;refine blk_put (cs:=#[.int .i64 0,.slice none 0 0]) ?_ 0 _ rfl;exact BK.out) Tryd.underlying43 rfl (by kernel_rfl)) rfl ?_
  exact⟨_,rfl,Kd.R_mono (Kd.R_far (p:=⟨w.heap.size+1,1,none⟩) (Kd.R_far (p:=⟨w.heap.size+1,0,none⟩) (Kd.R_types HO.out BK.out (by decide)) (fun _ hk=>hk.2) (.int .i64 t1)) (fun _ hk=>hk.2) (.slice Ap t2.length cp)) (fun _ _=>trivial),below_set (below_set HB3.out (Nat.le_succ _)) (Nat.le_succ _)⟩
def impl_KautzDigraph.f (k:Nat) (a0:Int) (a1:Int):Option (Int × List Int × Int):=(impl_kautzCode.f k a0 a1).bind fun t229=>(if t229=0 then((impl_kautz.f k a0 a1).bind fun bt230=>(some (bt230.1,bt230.2,0)))else(some (0,([]:List Int),t229)))
set_option maxHeartbeats 8000000 in
set_option maxRecDepth 100000 in
theorem impl_KautzDigraph.calls (k:Nat) (a0:Int) (a1:Int) (r1:Int) (r2:List Int) (r3:Int) (w:World) (h:impl_KautzDigraph.f k a0 a1=some (r1,r2,r3)) :
    Calls Tryd.prog 67 #[.int .i64 a0,.int .i64 a1] w fun e w'=>∃v1_:Value,e=.returned (.tuple #[.agg #[.int .i64 r1,v1_],.int .i64 r3])∧Kd.R (Kd.int .i64) 2 w' w.heap.size (fun _=>True) v1_ r2∧Below w.heap.size w w':=by
  (have hu43:=Tryd.underlying43);(have HB:=Aside0.mk (Below.refl w.heap.size w));(have H:((impl_kautzCode.f k a0 a1).bind fun t229=>(if t229=0 then((impl_kautz.f k a0 a1).bind fun bt230=>(some (bt230.1,bt230.2,0)))else(some (0,([]:List Int),t229))))=some (r1,r2,r3):=h);clear h;(replace H:=Yq H);(obtain⟨t229,A3,H⟩:=H);(replace H:=Yp H);(obtain⟨c4,H⟩|⟨c4,H⟩:=H);(· (obtain⟨c4b0,c4b1⟩:=Yv c4);clear c4;(replace H:=Yq H);(obtain⟨⟨t230,t231⟩,A5,H⟩:=H);(try dsimp only at H);(simp only[Option.some.injEq,Prod.mk.injEq]at H);(obtain⟨rfl,rfl,rfl⟩:=H);(go_enter Tryd.func67,Tryd.ntmps67);(go_wp2_with(first|(refine Y4 4 #[.int .i64 0,.slice none 0 0] 43 ?_;intro gb228 hg w6 hbox hb;have BK228:=Aside0.mk (hbox);have GW228:=Yge HB hg;have GE228:=Yge HB hg;replace HB:=Aside0.mk (below_step (Ya) hb);clear hb hbox hg)|(refine Y5 142 (some 9) Tryd.func142 #[.int .i64 a0,.int .i64 a1] ?_;(with_reducible refine(impl_kautzCode.calls k a0 a1 t229 _ A3.out).mono ?_);rintro e w7 ⟨rfl,hb⟩;refine⟨_,rfl,?_⟩;replace BK228:=Aside0.mk (blk_below (Ye BK228) hb);replace HB:=Aside0.mk (below_step (Ya) hb);clear hb)|(refine Y5 143 (some 16) Tryd.func143 #[.int .i64 a0,.int .i64 a1] ?_;(with_reducible refine(impl_kautz.calls k a0 a1 t230 t231 _ A5.out).mono ?_);rintro e w8 ⟨v232,rfl,ho0,hb⟩;refine⟨_,rfl,?_⟩;have HO233:=Aside0.mk (Kd.R_lower ho0 (below_size (Ya)));replace BK228:=Aside0.mk (blk_below (Ye BK228) hb);replace HB:=Aside0.mk (below_step (Ya) hb);clear hb ho0;obtain⟨hcz9_0,hcz9_1,hfz9_0,hfz9_1⟩:=Y2 BK228;obtain⟨Ao10,co10,eo10⟩:=Kd.R_slice HO233.out;subst eo10)));(refine bodyPost_ret (results_ct rfl _ _ gb228 43 #[.int .i64 t230,.slice Ao10 t231.length co10] (0,0) _ rfl (by refine Yput #[.int .i64 t230,.slice none 0 0] 1 ?_;refine Yput #[.int .i64 0,.slice none 0 0] 0 ?_;exact Ye BK228) Tryd.underlying43 rfl (by kernel_rfl)) rfl ?_);(exact⟨_,Yl,YbR (Kd.R_mono (Kd.R_far (p:=⟨gb228,1,none⟩) (Kd.R_far (p:=⟨gb228,0,none⟩) (Kd.R_types HO233.out BK228.out (by decide)) (fun _ hk=>hk.2) (.int .i64 t230)) (fun _ hk=>hk.2) (.slice Ao10 t231.length co10)) (fun _ hk=>trivial)),Ya⟩))
  · obtain⟨c4b0,c4b1⟩:=Yw c4
    (simp only[Option.some.injEq,Prod.mk.injEq]at H);(obtain⟨rfl,rfl,rfl⟩:=H);(go_enter Tryd.func67,Tryd.ntmps67);(go_wp2_with(first|(refine Y4 4 #[.int .i64 0,.slice none 0 0] 43 ?_;intro gb228 hg w11 hbox hb;have BK228:=Aside0.mk (hbox);have GW228:=Yge HB hg;have GE228:=Yge HB hg;replace HB:=Aside0.mk (below_step (Ya) hb);clear hb hbox hg)|(refine Y5 142 (some 9) Tryd.func142 #[.int .i64 a0,.int .i64 a1] ?_;(with_reducible refine(impl_kautzCode.calls k a0 a1 t229 _ A3.out).mono ?_);rintro e w12 ⟨rfl,hb⟩;refine⟨_,rfl,?_⟩;replace BK228:=Aside0.mk (blk_below (Ye BK228) hb);replace HB:=Aside0.mk (below_step (Ya) hb);clear hb;obtain⟨hcz13_0,hcz13_1,hfz13_0,hfz13_1⟩:=Y2 BK228)));(refine bodyPost_ret (results_ct rfl _ _ gb228 43 #[.int .i64 0,.slice none 0 0] (0,0) _ rfl (by refine Yput #[.int .i64 0,.slice none 0 0] 1 ?_;refine Yput #[.int .i64 0,.slice none 0 0] 0 ?_;exact Ye BK228) Tryd.underlying43 rfl (by kernel_rfl)) rfl ?_);(exact⟨_,Yl,by first|exact Kd.R_nil _ _ _ _ _|exact Kd.N_nil _ _ _ _ _|exact Kd.V_nil _ _ _ _ _|exact Kd.Q_nil _ _ _ _ _|exact Kd.S_nil _ _ _ _ _,Ya⟩)
def spec_l01In.f (a0:Int) (a1:Int) (a2:Int):Option (Bool):=if a0≥a1 then(some (decide (a0≤a2)))else(some false)
set_option maxHeartbeats 8000000 in
set_option maxRecDepth 100000 in
theorem spec_l01In.calls (a0:Int) (a1:Int) (a2:Int) (r:Bool) (w:World) (h:spec_l01In.f a0 a1 a2=some r) :
    Calls Tryd.prog 98 #[.int .i64 a0,.int .i64 a1,.int .i64 a2] w fun e w'=>e=.returned (.bool r)∧Drawn0 w w':=by
  (have H:(if a0≥a1 then(some (decide (a0≤a2)))else(some false))=some r:=h);clear h;(replace H:=Yp H);(obtain⟨c4,H⟩|⟨c4,H⟩:=H);(· (have c4b0:=decide_eq_true c4);clear c4;(obtain rfl:=Option.some.inj H);(go_enter Tryd.func98,Tryd.ntmps98);go_wp2;go_ret;(exact⟨by first|rfl|(simp;done)|(simp[*];done),by repeat(first|exact Drawn0.refl _|apply Drawn0.step)⟩))
  · have c4b0:=decide_eq_false c4
    clear c4;(obtain rfl:=Option.some.inj H);(go_enter Tryd.func98,Tryd.ntmps98);go_wp2;go_ret;(exact⟨by first|rfl|(simp;done)|(simp[*];done),by repeat(first|exact Drawn0.refl _|apply Drawn0.step)⟩)
mutual
def spec_l08Words.j0:Nat→Int→Int→Int→Option (Int)
  |0,_,_,_=>none
  |k+1,x0,x1,x7=>spec_l08Words.l0 k x0 x1 x7
def spec_l08Words.l0:Nat→Int→Int→Int→Option (Int)
  |0,_,_,_=>none
  |k+1,x0,x1,x7=>if x1>1 then(spec_l08Words.l0 k x0 (wrap64 (x1-1)) (mn (wrap64 (x7*x0)) 63))else(some x7)
end
def spec_l08Words.f (k:Nat) (a0:Int) (a1:Int) (a2:Bool):Option (Int):=if a2=true then(spec_l08Words.j0 k a0 a1 (wrap64 (a0+1)))else(spec_l08Words.j0 k a0 a1 a0)
set_option maxHeartbeats 8000000 in
set_option maxRecDepth 100000 in
theorem spec_l08Words.calls (k:Nat) (a0:Int) (a1:Int) (a2:Bool) (r:Int) (w:World) (h:spec_l08Words.f k a0 a1 a2=some r) :
    Calls Tryd.prog 151 #[.int .i64 a0,.int .i64 a1,.bool a2] w fun e w'=>e=.returned (.int .i64 r)∧Below w.heap.size w w':=by
  (have HB:=Aside0.mk (Below.refl w.heap.size w));(have H:(if a2=true then(spec_l08Words.j0 k a0 a1 (wrap64 (a0+1)))else(spec_l08Words.j0 k a0 a1 a0))=some r:=h);clear h;(have HC4:=Aside0.mk H);clear H;(go_enter Tryd.func151,Tryd.ntmps151);(go_upto_if 9 with(fail));(go_cut[7] (fun v7 wc=>∃(kq:Nat) (x7_3:Int),v7=.int .i64 x7_3∧Aside0 (spec_l08Words.j0 kq a0 a1 x7_3=some r)∧Aside0 (kq≤k)∧Aside0 (Below w.heap.size w wc)))
  case first=>
    (have H:=HC4.out);clear HC4;(by_cases c5:a2=true);(· subst c5;(replace H:=Ybt H);(have H':=Aside0.mk H);clear H;go_wp2;(go_meet);(case rel=>exact⟨_,(wrap64 (a0+1)),Yk,H',⟨by first|omega|exact Nat.le_refl _⟩,⟨Ya⟩⟩));(· (replace c5:=Bool.eq_false_iff.mpr c5);subst c5;(replace H:=Ybf H);(have H':=Aside0.mk H);clear H;go_wp2;(go_meet);(case rel=>exact⟨_,(a0),Yk,H',⟨by first|omega|exact Nat.le_refl _⟩,⟨Ya⟩⟩))
  case rest=>
    clear HC4;(obtain⟨kq,x7_3,rfl,HA,HJ3,HB⟩:=hcut)
    cases kq with
    |zero=>exact absurd HA.out (by simp[spec_l08Words.j0])
    |succ kj3=>
      (have H:=HA.out);clear HA;(simp only[spec_l08Words.j0]at H);(have H':=Aside0.mk H);clear H;go_wp2;(go_loopg[1,7] kj3 (fun kq v1 v7 w'=>∃(x1_2:Int) (x7_2:Int),v1=.int .i64 x1_2∧v7=.int .i64 x7_2∧Aside0 (spec_l08Words.l0 kq a0 x1_2 x7_2=some r)∧Aside0 (kq≤kj3)∧Aside0 (Below w.heap.size w w')));(case atStart=>exact⟨(a1),(x7_3),Yk,Yk,H',⟨Nat.le_refl _⟩,⟨Ya⟩⟩)
      case round=>
        (clear H');(obtain⟨x1_2,x7_2,rfl,rfl,HA,HK2,HB⟩:=hrel)
        cases gk with
        |zero=>exact absurd HA.out (by simp[spec_l08Words.l0])
        |succ k2=>
          (have H:=HA.out);clear HA;(simp only[spec_l08Words.l0]at H);(replace H:=Yp H);(obtain⟨c6,H⟩|⟨c6,H⟩:=H);(· (have c6b0:=decide_eq_true c6);clear c6;(obtain⟨ji7,hji7⟩:=Yt (mn (wrap64 (x7_2*a0)) 63));(try simp only[hji7]at H);(have hji7_:(if 63<(wrap64 (x7_2*a0))then 63 else(wrap64 (x7_2*a0)))=ji7:=hji7);(have H':=Aside0.mk H);clear H;go_wp2;(go_roundg k2);(case measure=>have:=HJ3.out;have:=HK2.out;omega);(case rel=>exact⟨(wrap64 (x1_2-1)),(ji7),Yk,(by first|rfl|(simp;done)|(simp only[← hji7]<;>(first|rfl|simp))|(simp[*];done)),H',⟨by have:=HJ3.out;have:=HK2.out;omega⟩,⟨Ya⟩⟩))
          · have c6b0:=decide_eq_false c6
            clear c6;(obtain rfl:=Option.some.inj H);go_wp2;go_ret;(exact⟨Yl,Ya⟩)
def spec_l08Kautz.j0:Nat→Int→Int→Bool→Option (Int)
  |0,_,_,_=>none
  |k+1,x0,x1,x5=>if x5=true then(some 2)else((spec_l08Words.f k x0 x1 true).bind fun t236=>(if t236>62 then(some 3)else(some 0)))
def spec_l08Kautz.f (k:Nat) (a0:Int) (a1:Int):Option (Int):=(spec_l01In.f a0 1 61).bind fun t234=>(if t234=true then((spec_l01In.f a1 1 10).bind fun t235=>(spec_l08Kautz.j0 k a0 a1 (!t235)))else(spec_l08Kautz.j0 k a0 a1 true))
set_option maxHeartbeats 8000000 in
set_option maxRecDepth 100000 in
theorem spec_l08Kautz.calls (k:Nat) (a0:Int) (a1:Int) (r:Int) (w:World) (h:spec_l08Kautz.f k a0 a1=some r) :
    Calls Tryd.prog 144 #[.int .i64 a0,.int .i64 a1] w fun e w'=>e=.returned (.int .i64 r)∧Below w.heap.size w w':=by
  (have HB:=Aside0.mk (Below.refl w.heap.size w));(have H:((spec_l01In.f a0 1 61).bind fun t234=>(if t234=true then((spec_l01In.f a1 1 10).bind fun t235=>(spec_l08Kautz.j0 k a0 a1 (!t235)))else(spec_l08Kautz.j0 k a0 a1 true)))=some r:=h);clear h;(have HC3:=Aside0.mk H);clear H;(go_enter Tryd.func144,Tryd.ntmps144);(go_upto_region 1 with(fail));(go_cut[5] (fun v5 wc=>∃(kq:Nat) (x5_2:Bool),v5=.bool x5_2∧Aside0 (spec_l08Kautz.j0 kq a0 a1 x5_2=some r)∧Aside0 (kq≤k)∧Aside0 (Below w.heap.size w wc)))
  case first=>
    (have H:=HC3.out);clear HC3;(replace H:=Yq H);(obtain⟨t234,A4,H⟩:=H);(by_cases c5:t234=true);(· subst c5;(replace H:=Ybt H);(replace H:=Yq H);(obtain⟨t235,A6,H⟩:=H);(have H':=Aside0.mk H);clear H;(go_wp2_with(first|(refine Y5 98 (some 7) Tryd.func98 #[.int .i64 a0,.int .i64 1,.int .i64 61] ?_;(with_reducible refine(spec_l01In.calls a0 1 61 true _ A4.out).mono ?_);rintro e w' ⟨rfl,⟨nd,rfl⟩⟩;refine⟨_,rfl,?_⟩)|(go_at_call 98;(with_reducible refine(spec_l01In.calls a1 1 10 t235 _ A6.out).mono ?_);rintro e w' ⟨rfl,⟨nd,rfl⟩⟩)));(go_meet);(case rel=>exact⟨_,(!t235),Yk,H',⟨by first|omega|exact Nat.le_refl _⟩,⟨Ya⟩⟩));(· (replace c5:=Bool.eq_false_iff.mpr c5);subst c5;(replace H:=Ybf H);(have H':=Aside0.mk H);clear H;(go_wp2_with(first|(refine Y5 98 (some 7) Tryd.func98 #[.int .i64 a0,.int .i64 1,.int .i64 61] ?_;(with_reducible refine(spec_l01In.calls a0 1 61 false _ A4.out).mono ?_);rintro e w' ⟨rfl,⟨nd,rfl⟩⟩;refine⟨_,rfl,?_⟩)));(go_meet);(case rel=>exact⟨_,(true),Yk,H',⟨by first|omega|exact Nat.le_refl _⟩,⟨Ya⟩⟩))
  case rest=>
    clear HC3;(obtain⟨kq,x5_2,rfl,HA,HJ2,HB⟩:=hcut)
    cases kq with
    |zero=>exact absurd HA.out (by simp[spec_l08Kautz.j0])
    |succ kj2=>
      (have H:=HA.out);clear HA;(simp only[spec_l08Kautz.j0]at H);(by_cases c7:x5_2=true);(· subst c7;(replace H:=Ybt H);(obtain rfl:=Option.some.inj H);go_wp2;go_ret;(exact⟨Yl,Ya⟩))
      · replace c7:=Bool.eq_false_iff.mpr c7
        subst c7;(replace H:=Ybf H);(replace H:=Yq H);(obtain⟨t236,A8,H⟩:=H);(replace H:=Yp H);(obtain⟨c9,H⟩|⟨c9,H⟩:=H);(· (have c9b0:=decide_eq_true c9);clear c9;(obtain rfl:=Option.some.inj H);(go_wp2_with(first|(refine Y5 151 (some 17) Tryd.func151 #[.int .i64 a0,.int .i64 a1,.bool true] ?_;(with_reducible refine(spec_l08Words.calls kj2 a0 a1 true t236 _ A8.out).mono ?_);rintro e w10 ⟨rfl,hb⟩;refine⟨_,rfl,?_⟩;replace HB:=Aside0.mk (below_step (Ya) hb);clear hb)));go_ret;(exact⟨Yl,Ya⟩))
        · have c9b0:=decide_eq_false c9
          clear c9;(obtain rfl:=Option.some.inj H);(go_wp2_with(first|(refine Y5 151 (some 17) Tryd.func151 #[.int .i64 a0,.int .i64 a1,.bool true] ?_;(with_reducible refine(spec_l08Words.calls kj2 a0 a1 true t236 _ A8.out).mono ?_);rintro e w11 ⟨rfl,hb⟩;refine⟨_,rfl,?_⟩;replace HB:=Aside0.mk (below_step (Ya) hb);clear hb)));go_ret;(exact⟨Yl,Ya⟩)
def spec_l08Follows.l0:Nat→List Int→List Int→Int→Option (Bool)
  |0,_,_,_=>none
  |k+1,x0,x1,x5=>if x5<(x0.length:Int)then(if 0≤x5 then(if 0≤(wrap64 (x5-1))then(if(wrap64 (x5-1))<(x1.length:Int)then(if(rd x0 x5)=(rd x1 (wrap64 (x5-1)))then(spec_l08Follows.l0 k x0 x1 (wrap64 (x5+1)))else(some false))else(none))else(none))else(none))else(some true)
def spec_l08Follows.f (k:Nat) (l0:List Int) (l1:List Int):Option (Bool):=spec_l08Follows.l0 k l0 l1 1
set_option maxHeartbeats 8000000 in
set_option maxRecDepth 100000 in
theorem spec_l08Follows.calls (k:Nat) (A0:Option Addr) (c0:Nat) (l0:List Int) (A1:Option Addr) (c1:Nat) (l1:List Int) (r:Bool) (w:World) (hr0:Kd.C (Kd.int .i64) w A0 l0.length l0) (hc0:l0.length≤c0) (hr1:Kd.C (Kd.int .i64) w A1 l1.length l1) (hc1:l1.length≤c1) (h:spec_l08Follows.f k l0 l1=some r) :
    Calls Tryd.prog 191 #[.slice A0 l0.length c0,.slice A1 l1.length c1] w fun e w'=>e=.returned (.bool r)∧Drawn0 w w':=by
  (have HR0:=Aside0.mk hr0);(have HC0:=Aside0.mk hc0);clear hr0 hc0;(have HR1:=Aside0.mk hr1);(have HC1:=Aside0.mk hc1);clear hr1 hc1;(have H:(spec_l08Follows.l0 k l0 l1 1)=some r:=h);clear h;(have H':=Aside0.mk H);clear H;(go_enter Tryd.func191,Tryd.ntmps191);go_wp2;(repeat(go_quiet(fail);try go_wp2));(go_loopg[5] k (fun kq v5 w'=>∃(x5_1:Int),v5=.int .i64 x5_1∧Aside0 (spec_l08Follows.l0 kq l0 l1 x5_1=some r)∧Aside0 (kq≤k)∧Drawn0 w w'));(case atStart=>exact⟨(1),Yk,H',⟨Nat.le_refl _⟩,by repeat(first|exact Drawn0.refl _|apply Drawn0.step)⟩)
  case round=>
    (clear H');(obtain⟨x5_1,rfl,HA,HK1,⟨m1,rfl⟩⟩:=hrel)
    cases gk with
    |zero=>exact absurd HA.out (by simp[spec_l08Follows.l0])
    |succ k1=>
      (have H:=HA.out);clear HA;(simp only[spec_l08Follows.l0]at H);(replace H:=Yp H);(obtain⟨c3,H⟩|⟨c3,H⟩:=H);(· (have c3b0:=decide_eq_true c3);clear c3;(replace H:=Dn H);(obtain⟨c4b0,H⟩:=H);(obtain⟨ji5,hji5⟩:=Yt (wrap64 (x5_1-1)));(try simp only[hji5]at H);(have hji5w:(IntKind.i64.wrap (x5_1-1))=ji5:=(i64_w _).trans hji5);(replace H:=Dn2 H);(obtain⟨c6b0,c7b0,H⟩:=H);(replace H:=Yp H);(obtain⟨c8,H⟩|⟨c8,H⟩:=H);(· (obtain⟨c8b0,c8b1⟩:=Yv c8);clear c8;(have H':=Aside0.mk H);clear H;(have p237:0≤(x5_1:Int):=Ym);(have q237:x5_1<(l0.length:Int):=Ym);(obtain⟨ad237,e237,hx237_0⟩:=Kd.at_int HR0.out x5_1 p237 q237);(cases e237);(replace p237:=eq_true p237);(replace q237:=eq_true q237);(have p238:0≤((ji5):Int):=Ym);(have q238:(ji5)<(l1.length:Int):=Ym);(obtain⟨ad238,e238,hx238_0⟩:=Kd.at_int HR1.out (ji5) p238 q238);(cases e238);(replace p238:=eq_true p238);(replace q238:=eq_true q238);go_wp2;(repeat(go_quiet(fail);try go_wp2));(go_roundg k1);(case measure=>have:=HK1.out;omega);(case rel=>exact⟨(wrap64 (x5_1+1)),Yk,H',⟨by have:=HK1.out;omega⟩,by repeat(first|exact Drawn0.refl _|apply Drawn0.step)⟩));(· (obtain⟨c8b0,c8b1⟩:=Yw c8);(obtain rfl:=Option.some.inj H);(have p237:0≤(x5_1:Int):=Ym);(have q237:x5_1<(l0.length:Int):=Ym);(obtain⟨ad237,e237,hx237_0⟩:=Kd.at_int HR0.out x5_1 p237 q237);(cases e237);(replace p237:=eq_true p237);(replace q237:=eq_true q237);(have p238:0≤((ji5):Int):=Ym);(have q238:(ji5)<(l1.length:Int):=Ym);(obtain⟨ad238,e238,hx238_0⟩:=Kd.at_int HR1.out (ji5) p238 q238);(cases e238);(replace p238:=eq_true p238);(replace q238:=eq_true q238);go_wp2;(repeat(go_quiet(fail);try go_wp2));go_ret;(exact⟨by first|rfl|(simp;done)|(simp only[← hji5]<;>(first|rfl|simp))|(simp[*];done),by repeat(first|exact Drawn0.refl _|apply Drawn0.step)⟩)))
      · have c3b0:=decide_eq_false c3
        clear c3;(obtain rfl:=Option.some.inj H);go_wp2;(repeat(go_quiet(fail);try go_wp2));go_ret;(exact⟨by first|rfl|(simp;done)|(simp[*];done),by repeat(first|exact Drawn0.refl _|apply Drawn0.step)⟩)
end Go.Proofs.YtmofdldplbplbaaDoor.P
