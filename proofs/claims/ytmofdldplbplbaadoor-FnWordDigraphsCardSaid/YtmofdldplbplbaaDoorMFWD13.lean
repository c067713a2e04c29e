-- Printed by a program of this workplace (wip/xp/xp.py), joined by wip/bin/mergeP.
import Derived.Test.YtmofdldplbplbaaDoorMFWD0
import Derived.Test.YtmofdldplbplbaaDoorMFWD4
import Derived.Test.YtmofdldplbplbaaDoorMFWD5
namespace Go.Proofs.YtmofdldplbplbaaDoor.P
open Go.RowKit Go.Proofs.YtmofdldplbplbaaDoorW.PrintWords Go.Proofs.YtmofdldplbplbaaDoorW.PrintLast Go.Proofs.YtmofdldplbplbaaDoorW.PrintMore
attribute [local go_sem] max2_int min2_int max_two min_two max_three min_three max_four min_four
set_option linter.unusedVariables false
set_option linter.unusedSimpArgs false
def impl_WordSequence.St (d K:Int) (bk bo bw bs bd bx cx:Nat) (w0 W:World) (out wd:List Int):Prop:=
  W.heap[bk]? =some (.cells #[.int .i64 K] 2 (0,0))∧W.heap[bd]? =some (.cells #[.int .i64 d] 2 (0,0))∧
  W.heap[bs]? =some (.cells #[.func (.func 154) #[] #[.pointer (some ⟨bk,0,none⟩),.pointer (some ⟨bo,0,none⟩),.pointer (some ⟨bw,0,none⟩),.pointer (some ⟨bs,0,none⟩),.pointer (some ⟨bd,0,none⟩)]] 122 (0,0))∧
  (∃vo,W.heap[bo]? =some (.cells #[vo] 24 (0,0))∧Kd.R (Kd.int .i64) 2 W w0.heap.size (fun k_=>k_≠bk∧k_≠bd∧k_≠bx) vo out)∧
  W.heap[bw]? =some (.cells #[.slice (some ⟨bx,0,none⟩) wd.length cx] 24 (0,0))∧Kd.R (Kd.int .i64) 2 W w0.heap.size (fun k_=>k_≠bk∧k_≠bd) (.slice (some ⟨bx,0,none⟩) wd.length cx) wd∧Below w0.heap.size w0 W
section
variable {d K:Int} {bk bo bw bs bd bx cx:Nat} {w0 W:World} {out wd:List Int}
theorem impl_WordSequence.St.below {W':World} (h:impl_WordSequence.St d K bk bo bw bs bd bx cx w0 W out wd) (hb:Below W.heap.size W W'):impl_WordSequence.St d K bk bo bw bs bd bx cx w0 W' out wd:=by
  obtain⟨h1,h2,h3,⟨vo,h4,h5⟩,h6,h7,h8⟩:=h
  exact⟨blk_below h1 hb,blk_below h2 hb,blk_below h3 hb,⟨vo,blk_below h4 hb,Kd.R_below h5 hb⟩,blk_below h6 hb,Kd.R_below h7 hb,below_then h8 (below_size h8) hb⟩
theorem impl_WordSequence.St.x (h:impl_WordSequence.St d K bk bo bw bs bd bx cx w0 W out wd):bx≠bk∧bx≠bd∧bs≠bx∧bo≠bx∧bw≠bx∧w0.heap.size≤bx:=by
  obtain⟨h1,h2,h3,⟨vo,h4,h5⟩,h6,h7,h8⟩:=h
  refine⟨(h7.1 bx rfl).1,(h7.1 bx rfl).2,?_,?_,?_,Kd.R_base h7 bx rfl⟩
  · intro e;exact Kd.R_ne h7 h3 (by decide) (congrArg some e)
  · intro e;exact Kd.R_ne h7 h4 (by decide) (congrArg some e)
  · intro e;exact Kd.R_ne h7 h6 (by decide) (congrArg some e)
theorem impl_WordSequence.St.put (h:impl_WordSequence.St d K bk bo bw bs bd bx cx w0 W out wd) (i x:Int) (hi:i.toNat<wd.length):impl_WordSequence.St d K bk bo bw bs bd bx cx w0 (W.setCell ⟨bx,i.toNat,none⟩ (.int .i64 x)) out (wd.set i.toNat x):=by
  obtain⟨n1,n2,n3,n4,n5,n6⟩:=h.x
  obtain⟨h1,h2,h3,⟨vo,h4,h5⟩,h6,h7,h8⟩:=h
  have p:=(Kd.R_putg h7 i x).1
  refine⟨blk_far h1 (Ne.symm n1) _,blk_far h2 (Ne.symm n2) _,blk_far h3 n3 _,⟨vo,blk_far h4 n4 _,Kd.R_far h5 (fun k hk=>hk.2.2) _⟩,?_,?_,below_set h8 n6⟩
  · rw[List.length_set];exact blk_far h6 n5 _
  · rw[List.length_set];exact p
theorem impl_WordSequence.St.add {W1:World} {vo v1:Value} {ys:List Int} (h:impl_WordSequence.St d K bk bo bw bs bd bx cx w0 W out wd) (hvo:W.heap[bo]? =some (.cells #[vo] 24 (0,0))) (hgo:w0.heap.size≤bo) (hne:bo≠bw)
    (ho:Kd.R (Kd.int .i64) 2 W1 w0.heap.size (fun k_=>k_≠bk∧k_≠bd∧k_≠bx) v1 (out++ys)) (hb:Below w0.heap.size w0 W1) (hg:W.grownBy W1 vo.ownBlock) :
    impl_WordSequence.St d K bk bo bw bs bd bx cx w0 (W1.setCell ⟨bo,0,none⟩ v1) (out++ys) wd:=by
  obtain⟨n1,n2,n3,n4,n5,n6⟩:=h.x
  obtain⟨h1,h2,h3,⟨vo',h4,h5⟩,h6,h7,h8⟩:=h
  obtain rfl:vo'=vo:=by
    have:=Option.some.inj (h4.symm.trans hvo)
    simpa using this
  have m1:some bk≠vo'.ownBlock:=fun e=>(h5.1 bk e.symm).1 rfl
  have m2:some bd≠vo'.ownBlock:=fun e=>(h5.1 bd e.symm).2.1 rfl
  have m3:some bx≠vo'.ownBlock:=fun e=>(h5.1 bx e.symm).2.2 rfl
  have m4:=Kd.R_ne h5 h4 (by decide)
  have m5:=Kd.R_ne h5 h3 (by decide)
  have m6:=Kd.R_ne h5 h6 (by decide)
  have k1:=blk_grown h1 hg m1
  have k2:=blk_grown h2 hg m2
  have k3:=blk_grown h3 hg m5
  have k4:=blk_grown h4 hg m4
  have k6:=blk_grown h6 hg m6
  have o1:bk≠bo:=fun e=>by rw[e]at k1;have:=Option.some.inj (k1.symm.trans k4);simp at this
  have o2:bd≠bo:=fun e=>by rw[e]at k2;have:=Option.some.inj (k2.symm.trans k4);simp at this
  have o3:bs≠bo:=fun e=>by rw[e]at k3;have:=Option.some.inj (k3.symm.trans k4);simp at this
  have k7:=Kd.R_grown (Kd.R_tight rfl h7) hg (fun k_ hk=>by have e:k_=bx:=Option.some.inj hk;rw[e];exact m3)
  refine⟨blk_far k1 o1 _,blk_far k2 o2 _,blk_far k3 o3 _,⟨v1,blk_put k4 0 v1 rfl,?_⟩,blk_far k6 (Ne.symm hne) _,?_,below_set hb hgo⟩
  · exact Kd.R_mono (Kd.R_far (Kd.R_types ho k4 (fun q hq=>by cases hq with|head=>decide|tail _ hq=>cases hq)) (fun k_ hk=>hk.2) _) (fun k_ hk=>hk.1)
  · exact Kd.R_mono (Kd.R_far k7 (fun k_ hk e=>by have e':k_=bx:=Option.some.inj hk;exact n4 (e.symm.trans e')) _) (fun k_ hk=>by have e':k_=bx:=Option.some.inj hk;rw[e'];exact⟨n1,n2⟩)
end
mutual
def impl_WordSequence.walk:Nat→Int→Int→Int→Int→List Int→List Int→Option (List Int × List Int)
  |0,_,_,_,_,_,_=>none
  |k+1,d,K,t,p,out,wd=>if t>K then(if p=0 then none else if Int.tmod K p=0 then(if 1≤wrap64 (p+1)then(if wrap64 (p+1)≤(wd.length:Int)then(if out.length+wd.length<17592186044416 then some (out++(wd.take (wrap64 (p+1)).toNat).drop 1,wd)else none)else none)else none)else some (out,wd))else(if 0≤wrap64 (t-p)then(if wrap64 (t-p)<(wd.length:Int)then(if 0≤t then(if t<(wd.length:Int)then((impl_WordSequence.walk k d K (wrap64 (t+1)) p out (wd.set t.toNat (rd wd (wrap64 (t-p))))).bind fun s=>(if wrap64 (t-p)<(s.2.length:Int)then impl_WordSequence.lp k d K t (wrap64 (rd s.2 (wrap64 (t-p))+1)) s.1 s.2 else none))else none)else none)else none)else none)
def impl_WordSequence.lp:Nat→Int→Int→Int→Int→List Int→List Int→Option (List Int × List Int)
  |0,_,_,_,_,_,_=>none
  |k+1,d,K,t,x,out,wd=>if x<d then(if 0≤t then(if t<(wd.length:Int)then((impl_WordSequence.walk k d K (wrap64 (t+1)) t out (wd.set t.toNat x)).bind fun s=>impl_WordSequence.lp k d K t (wrap64 (x+1)) s.1 s.2)else none)else none)else some (out,wd)
end
theorem impl_WordSequence.rng {W:World} {bx cx:Nat} {wd:List Int} (h:Kd.C (Kd.int .i64) W (some ⟨bx,0,none⟩) wd.length wd) (q:Nat) (h1:1≤q) (h2:q≤wd.length) (hc:wd.length≤cx):Kd.C (Kd.int .i64) W (if cx=1 then some ⟨bx,0,none⟩else some ⟨bx,1,none⟩) (q-1) ((wd.take q).drop 1):=by
  have a:=Kd.C_drop (c:=cx) (Kd.C_take h h2) (show 1≤(wd.take q).length by rw[List.length_take];omega) (by rw[List.length_take];omega)
  rw[show((wd.take q).drop 1).length=q-1 by rw[List.length_drop,List.length_take];omega]at a
  exact a
theorem impl_WordSequence.st {P:Program} {ops:Array Oper} {Q:Exit→Act→World→Prop} {oi:Oper} {a:Act} {w w1:World} {K:Act→World→Prop} (hN:oi.dst=none) (hw:Region.wanted oi (yielded ops a.tmps)=true) (hrun:(execOp a.eval oi).run P w=.ok .skip w1) (h:K (a.put none undef) w1):if Region.wanted oi (yielded ops a.tmps)=true then Oper.wp P oi a w K Q else K (a.put none undef) w:=by
  rw[if_pos hw]
  unfold Oper.wp
  rw[hrun]
  show K (a.put oi.dst undef) w1
  rw[hN]
  exact h
set_option maxHeartbeats 4000000 in
set_option maxRecDepth 100000 in
theorem impl_WordSequence.lit (d K:Int) (bk bo bw bs bd bx cx:Nat) (w0:World) (hgo:w0.heap.size≤bo) (hne:bo≠bw) (k:Nat):∀j,j≤k→∀(t p:Int) (out wd out' wd':List Int) (W:World),impl_WordSequence.St d K bk bo bw bs bd bx cx w0 W out wd→impl_WordSequence.walk j d K t p out wd=some (out',wd')→
    Calls Tryd.prog 154 #[.int .i64 t,.int .i64 p,.pointer (some ⟨bk,0,none⟩),.pointer (some ⟨bo,0,none⟩),.pointer (some ⟨bw,0,none⟩),.pointer (some ⟨bs,0,none⟩),.pointer (some ⟨bd,0,none⟩)] W fun e w'=>e=.returned (.tuple #[])∧impl_WordSequence.St d K bk bo bw bs bd bx cx w0 w' out' wd':=by
  induction k with
  |zero=>intro j hj t p out wd out' wd' W _ h;(obtain rfl:j=0:=(by omega));simp[impl_WordSequence.walk]at h
  |succ k ih=>
    intro j hj t p out wd out' wd' W hS h
    by_cases hjk:j≤k
    · exact ih j hjk t p out wd out' wd' W hS h
    obtain rfl:j=k+1:=by omega
    clear hj hjk
    have HS:=Aside0.mk hS
    clear hS
    have hcK:W.cell? ⟨bk,0,none⟩=some (.int .i64 K):=(blk_cell HS.out.1 0).trans rfl
    have hcw:W.cell? ⟨bw,0,none⟩=some (.slice (some ⟨bx,0,none⟩) wd.length cx):=(blk_cell HS.out.2.2.2.2.1 0).trans rfl
    simp only[impl_WordSequence.walk]at h
    by_cases c1:t>K
    · rw[if_pos c1]at h
      have c1b:decide (t>K)=true:=decide_eq_true c1
      by_cases c2:p=0
      · rw[if_pos c2]at h;cases h
      rw[if_neg c2]at h
      have c2b:(p==0)=false:=beq_eq_false_iff_ne.mpr c2
      by_cases c3:Int.tmod K p=0
      · rw[if_pos c3]at h
        have c3b:(Int.tmod K p==0)=true:=beq_iff_eq.mpr c3
        by_cases c4:1≤wrap64 (p+1)
        case neg=>rw[if_neg c4]at h;cases h
        rw[if_pos c4]at h
        by_cases c5:wrap64 (p+1)≤(wd.length:Int)
        case neg=>rw[if_neg c5]at h;cases h
        rw[if_pos c5]at h
        by_cases c6:out.length+wd.length<17592186044416
        case neg=>rw[if_neg c6]at h;cases h
        rw[if_pos c6]at h
        simp only[Option.some.injEq,Prod.mk.injEq]at h
        obtain⟨rfl,rfl⟩:=h
        obtain⟨vo,hvo,hro⟩:=HS.out.2.2.2.1
        obtain⟨Ao,co,rfl⟩:=Kd.R_slice hro
        have hco:W.cell? ⟨bo,0,none⟩=some (.slice Ao out.length co):=(blk_cell hvo 0).trans rfl
        generalize hys:(wd.take (wrap64 (p+1)).toNat).drop 1=ys
        have hcx:=(Kd.R_reads' HS.out.2.2.2.2.2.1).2.1
        have c4b:=eq_true c4
        have c5b:(wrap64 (p+1)≤(cx:Int))=True:=eq_true (by omega)
        have LM:=Aside0.mk c6
        have HX:=Aside0.mk hcx
        clear c6 hcx
        go_enter Tryd.func154,Tryd.ntmps154
        go_wp2
        refine start_ (n:=7) (S:=fun w'=>w'.cell? ⟨bo,0,none⟩=some (.slice Ao out.length co)∧w'.cell? ⟨bw,0,none⟩=some (.slice (some ⟨bx,0,none⟩) wd.length cx)) (ds:=[6]) #[false,false,false,false,false,false,false] (by kernel_rfl) rfl rfl ⟨hco,hcw⟩ (fun hHeld=>?_)
        have HS1:=Aside0.mk (HS.out.below (below_drew (Below.refl W.heap.size W)))
        have hvo1:=blk_drew hvo
        have hro1:=Kd.R_drew hro
        have HR1:=impl_WordSequence.rng (Kd.R_reads' HS1.out.2.2.2.2.2.1).2.2 (wrap64 (p+1)).toNat (by have:=of_eq_true c4b;omega) (by omega) HX.out
        rw[hys]at HR1
        generalize W.drew=W1 at HR1 HS1 hvo1 hro1 hHeld ⊢
        clear HS hvo hro hcK hcw hco
        refine take_ (i:=0) (N:=some 17) (v:=?_) (a':=?_) #[true,false,false,false,false,false,false] rfl rfl (by kernel_rfl) (fun _ _ _ h=>h) (Or.inl ⟨by rfl,?_⟩) hHeld ?_ ?_
        rotate_left
        · rintro w' ⟨s0,s1⟩
          go_simp
          with_reducible rfl
        rotate_left
        · simp only[Act.put,List.setIfInBounds_toArray,List.set_cons_zero,List.set_cons_succ,i64_w,i32_w]
          rfl
        refine take_ (i:=1) (N:=some 18) (v:=?_) (a':=?_) #[true,true,false,false,false,false,false] rfl rfl (by kernel_rfl) (fun _ _ _ h=>h) (Or.inl ⟨by rfl,?_⟩) hHeld ?_ ?_
        rotate_left
        · rintro w' ⟨s0,s1⟩
          go_simp
          with_reducible rfl
        rotate_left
        · simp only[Act.put,List.setIfInBounds_toArray,List.set_cons_zero,List.set_cons_succ,i64_w,i32_w]
          rfl
        refine pure_ (i:=2) (N:=some 19) (v:=?_) (a':=?_) #[true,true,true,false,false,false,false] rfl rfl (by kernel_rfl) (fun _ _ _ h=>h) (Or.inl ⟨by rfl,?_⟩) ?_ ?_
        rotate_left
        · intro w'
          go_simp
          with_reducible rfl
        rotate_left
        · simp only[Act.put,List.setIfInBounds_toArray,List.set_cons_zero,List.set_cons_succ,i64_w,i32_w]
          rfl
        refine pure_ (i:=3) (N:=some 20) (v:=?_) (a':=?_) #[true,true,true,true,false,false,false] rfl rfl (by kernel_rfl) (fun _ _ _ h=>h) (Or.inl ⟨by rfl,?_⟩) ?_ ?_
        rotate_left
        · intro w'
          go_simp
          with_reducible rfl
        rotate_left
        · simp only[Act.put,List.setIfInBounds_toArray,List.set_cons_zero,List.set_cons_succ,i64_w,i32_w]
          rfl
        refine pure_ (i:=4) (N:=some 21) (v:=?_) (a':=?_) #[true,true,true,true,true,false,false] rfl rfl (by kernel_rfl) (fun _ _ _ h=>h) (Or.inl ⟨by rfl,?_⟩) ?_ ?_
        rotate_left
        · intro w'
          go_simp
          with_reducible rfl
        rotate_left
        · simp only[Act.put,List.setIfInBounds_toArray,List.set_cons_zero,List.set_cons_succ,i64_w,i32_w]
          rfl
        refine one_ (i:=5) (N:=some 22) #[true,true,true,true,true,true,false] rfl rfl (by kernel_rfl) (by decide) (fun K hK=>?_)
        refine Kd.R_append_rows_step (Kd.int .i64) (w0:=w0) w0.heap.size (by rfl) (.tmp 17) (.tmp 21) 24 2 (.int .i64 0) 8 rfl Tryd.underlying24 info2 rfl (by decide) (by omega) (.slice Ao out.length co) out ys _ _ _ (fun k_=>k_≠bk∧k_≠bd∧k_≠bx) (fun _=>False) rfl rfl hro1 HR1 (fun _ _ h=>h) (fun _ h=>h.elim) ?aF HS1.out.2.2.2.2.2.2 (below_size HS1.out.2.2.2.2.2.2) ?aL ?_
        case aF=>intro k_ hk;have l1:=blk_lt HS1.out.1;have l2:=blk_lt HS1.out.2.1;have l3:=Kd.R_lt HS1.out.2.2.2.2.2.1 bx rfl;exact⟨by omega,by omega,by omega⟩
        case aL=>have:=LM.out;omega
        intro v1 w1 ho hb hg hat
        obtain⟨A1,cv,rfl⟩:=Kd.R_slice ho
        have hgo2:=blk_grown hvo1 hg (Kd.R_ne hro1 hvo1 (by decide))
        have hgw2:=blk_grown HS1.out.2.2.2.2.1 hg (Kd.R_ne hro1 HS1.out.2.2.2.2.1 (by decide))
        refine hK.out _ _ ⟨(blk_cell hgo2 0).trans rfl,(blk_cell hgw2 0).trans rfl⟩ (fun hHeld=>?_)
        clear hK K
        refine norm_ (a':=?_) ?_ ?_
        rotate_left
        · show Act.put _ (some 22) _=_
          simp only[Act.put,List.setIfInBounds_toArray,List.set_cons_zero,List.set_cons_succ,i64_w,i32_w]
          rfl
        refine last_ (i:=6) (N:=none) #[true,true,true,true,true,true,true] rfl rfl (by kernel_rfl) (by decide) (fun K hK=>?_)
        have HN:=Aside0.mk (HS1.out.add hvo1 hgo hne ho hb hg)
        have hcg:=(blk_cell hgo2 0).trans rfl
        have hfg:=blk_frozen hgo2 0
        refine impl_WordSequence.st (w1:=w1.setCell ⟨bo,0,none⟩ (.slice A1 (out++ys).length cv)) rfl (by rfl) (by first|(go_simp;done)|(go_simp;rfl)) ?_
        refine hK.out _ _ ?_
        clear hK K
        refine done_ (by kernel_rfl) ?_
        generalize w1.setCell ⟨bo,0,none⟩ (.slice A1 (out++ys).length cv)=w2 at HN ⊢
        generalize(if cx=1 then(some ⟨bx,0,none⟩:Option Addr)else some ⟨bx,1,none⟩)=adr
        go_wp2
        (try simp only[Exit.inBlock,Exit.then]);refine bodyPost_ret (results_none rfl _ _ _) rfl ?_
        exact⟨rfl,HN.out⟩
      · rw[if_neg c3]at h
        have c3b:(Int.tmod K p==0)=false:=beq_eq_false_iff_ne.mpr c3
        simp only[Option.some.injEq,Prod.mk.injEq]at h
        obtain⟨rfl,rfl⟩:=h
        go_enter Tryd.func154,Tryd.ntmps154
        go_wp2
        (try simp only[Exit.inBlock,Exit.then]);refine bodyPost_ret (results_none rfl _ _ _) rfl ?_
        exact⟨rfl,HS.out⟩
    · rw[if_neg c1]at h
      have c1b:decide (t>K)=false:=decide_eq_false c1
      by_cases c2:0≤wrap64 (t-p)
      case neg=>rw[if_neg c2]at h;cases h
      rw[if_pos c2]at h
      by_cases c3:wrap64 (t-p)<(wd.length:Int)
      case neg=>rw[if_neg c3]at h;cases h
      rw[if_pos c3]at h
      by_cases c4:0≤t
      case neg=>rw[if_neg c4]at h;cases h
      rw[if_pos c4]at h
      by_cases c5:t<(wd.length:Int)
      case neg=>rw[if_neg c5]at h;cases h
      rw[if_pos c5]at h
      obtain⟨⟨o1,d1⟩,A1,h⟩:=Option.bind_eq_some_iff.mp h
      dsimp only at h
      by_cases c6:wrap64 (t-p)<(d1.length:Int)
      case neg=>rw[if_neg c6]at h;cases h
      rw[if_pos c6]at h
      have HA1:=Aside0.mk A1
      have H:=Aside0.mk h
      clear h A1
      have hcr:W.cell? ⟨bx,(wrap64 (t-p)).toNat,none⟩=some (.int .i64 (rd wd (wrap64 (t-p)))):=(Kd.R_celln 0 HS.out.2.2.2.2.2.1 (wrap64 (t-p)) c2 c3).1
      have q2:=eq_true c2
      have q3:=eq_true c3
      have q4:=eq_true c4
      have q5:=eq_true c5
      go_enter Tryd.func154,Tryd.ntmps154
      go_wp2
      refine start_ (n:=10) (S:=fun w'=>w'.cell? ⟨bw,0,none⟩=some (.slice (some ⟨bx,0,none⟩) wd.length cx)∧w'.cell? ⟨bx,(wrap64 (t-p)).toNat,none⟩=some (.int .i64 (rd wd (wrap64 (t-p))))) (ds:=[9]) #[false,false,false,false,false,false,false,false,false,false] (by kernel_rfl) rfl rfl ⟨hcw,hcr⟩ (fun hHeld=>?_)
      have HS1:=Aside0.mk (HS.out.below (below_drew (Below.refl W.heap.size W)))
      generalize W.drew=W1 at HS1 hHeld ⊢
      clear HS hcK hcw hcr
      refine take_ (i:=0) (N:=some 23) (v:=?_) (a':=?_) #[true,false,false,false,false,false,false,false,false,false] rfl rfl (by kernel_rfl) (fun _ _ _ h=>h) (Or.inl ⟨by rfl,?_⟩) hHeld ?_ ?_
      rotate_left
      · rintro w' ⟨s0,s1⟩
        go_simp
        with_reducible rfl
      rotate_left
      · simp only[Act.put,List.setIfInBounds_toArray,List.set_cons_zero,List.set_cons_succ,i64_w,i32_w]
        rfl
      refine pure_ (i:=1) (N:=some 24) (v:=?_) (a':=?_) #[true,true,false,false,false,false,false,false,false,false] rfl rfl (by kernel_rfl) (fun _ _ _ h=>h) (Or.inl ⟨by rfl,?_⟩) ?_ ?_
      rotate_left
      · intro w'
        go_simp
        with_reducible rfl
      rotate_left
      · simp only[Act.put,List.setIfInBounds_toArray,List.set_cons_zero,List.set_cons_succ,i64_w,i32_w]
        rfl
      refine take_ (i:=2) (N:=some 25) (v:=?_) (a':=?_) #[true,true,true,false,false,false,false,false,false,false] rfl rfl (by kernel_rfl) (fun _ _ _ h=>h) (Or.inl ⟨by rfl,?_⟩) hHeld ?_ ?_
      rotate_left
      · rintro w' ⟨s0,s1⟩
        go_simp
        with_reducible rfl
      rotate_left
      · simp only[Act.put,List.setIfInBounds_toArray,List.set_cons_zero,List.set_cons_succ,i64_w,i32_w]
        rfl
      refine pure_ (i:=3) (N:=some 26) (v:=?_) (a':=?_) #[true,true,true,true,false,false,false,false,false,false] rfl rfl (by kernel_rfl) (fun _ _ _ h=>h) (Or.inl ⟨by rfl,?_⟩) ?_ ?_
      rotate_left
      · intro w'
        go_simp
        with_reducible rfl
      rotate_left
      · simp only[Act.put,List.setIfInBounds_toArray,List.set_cons_zero,List.set_cons_succ,i64_w,i32_w]
        rfl
      refine pure_ (i:=4) (N:=some 27) (v:=?_) (a':=?_) #[true,true,true,true,true,false,false,false,false,false] rfl rfl (by kernel_rfl) (fun _ _ _ h=>h) (Or.inl ⟨by rfl,?_⟩) ?_ ?_
      rotate_left
      · intro w'
        go_simp
        with_reducible rfl
      rotate_left
      · simp only[Act.put,List.setIfInBounds_toArray,List.set_cons_zero,List.set_cons_succ,i64_w,i32_w]
        rfl
      refine pure_ (i:=5) (N:=some 28) (v:=?_) (a':=?_) #[true,true,true,true,true,true,false,false,false,false] rfl rfl (by kernel_rfl) (fun _ _ _ h=>h) (Or.inl ⟨by rfl,?_⟩) ?_ ?_
      rotate_left
      · intro w'
        go_simp
        with_reducible rfl
      rotate_left
      · simp only[Act.put,List.setIfInBounds_toArray,List.set_cons_zero,List.set_cons_succ,i64_w,i32_w]
        rfl
      refine pure_ (i:=6) (N:=some 29) (v:=?_) (a':=?_) #[true,true,true,true,true,true,true,false,false,false] rfl rfl (by kernel_rfl) (fun _ _ _ h=>h) (Or.inl ⟨by rfl,?_⟩) ?_ ?_
      rotate_left
      · intro w'
        go_simp
        with_reducible rfl
      rotate_left
      · simp only[Act.put,List.setIfInBounds_toArray,List.set_cons_zero,List.set_cons_succ,i64_w,i32_w]
        rfl
      refine take_ (i:=7) (N:=some 30) (v:=?_) (a':=?_) #[true,true,true,true,true,true,true,true,false,false] rfl rfl (by kernel_rfl) (fun _ _ _ h=>h) (Or.inl ⟨by rfl,?_⟩) hHeld ?_ ?_
      rotate_left
      · rintro w' ⟨s0,s1⟩
        go_simp
        with_reducible rfl
      rotate_left
      · simp only[Act.put,List.setIfInBounds_toArray,List.set_cons_zero,List.set_cons_succ,i64_w,i32_w]
        rfl
      refine pure_ (i:=8) (N:=some 31) (v:=?_) (a':=?_) #[true,true,true,true,true,true,true,true,true,false] rfl rfl (by kernel_rfl) (fun _ _ _ h=>h) (Or.inl ⟨by rfl,?_⟩) ?_ ?_
      rotate_left
      · intro w'
        go_simp
        with_reducible rfl
      rotate_left
      · simp only[Act.put,List.setIfInBounds_toArray,List.set_cons_zero,List.set_cons_succ,i64_w,i32_w]
        rfl
      refine last_ (i:=9) (N:=none) #[true,true,true,true,true,true,true,true,true,true] rfl rfl (by kernel_rfl) (by decide) (fun K hK=>?_)
      have HN:=Aside0.mk (HS1.out.put t (rd wd (wrap64 (t-p))) (by omega))
      obtain⟨hct,hft⟩:=Kd.R_celln 0 HS1.out.2.2.2.2.2.1 t c4 c5
      refine impl_WordSequence.st (w1:=W1.setCell ⟨bx,t.toNat,none⟩ (.int .i64 (rd wd (wrap64 (t-p))))) rfl (by rfl) (by first|(go_simp;done)|(go_simp;rfl)) ?_
      refine hK.out _ _ ?_
      clear hK K hct hft
      refine done_ (by kernel_rfl) ?_
      generalize W1.setCell ⟨bx,t.toNat,none⟩ (.int .i64 (rd wd (wrap64 (t-p))))=W2 at HN ⊢
      clear HS1 hHeld
      have hcs:W2.cell? ⟨bs,0,none⟩=some (.func (.func 154) #[] #[.pointer (some ⟨bk,0,none⟩),.pointer (some ⟨bo,0,none⟩),.pointer (some ⟨bw,0,none⟩),.pointer (some ⟨bs,0,none⟩),.pointer (some ⟨bd,0,none⟩)]):=(blk_cell HN.out.2.2.1 0).trans rfl
      go_wp2_with fail
      refine(ih k (Nat.le_refl _) (wrap64 (t+1)) p out _ o1 d1 _ HN.out HA1.out).mono ?_
      rintro e W3 ⟨rfl,hS3⟩
      clear HN HA1 hcs
      have HS3:=Aside0.mk hS3
      clear hS3
      have hcw:W3.cell? ⟨bw,0,none⟩=some (.slice (some ⟨bx,0,none⟩) d1.length cx):=(blk_cell HS3.out.2.2.2.2.1 0).trans rfl
      have hcr:W3.cell? ⟨bx,(wrap64 (t-p)).toNat,none⟩=some (.int .i64 (rd d1 (wrap64 (t-p)))):=(Kd.R_celln 0 HS3.out.2.2.2.2.2.1 (wrap64 (t-p)) c2 c6).1
      have q6:=eq_true c6
      go_wp2
      go_loopg[9] k (fun kq v9 w'=>∃(x:Int) (o2 d2:List Int),v9=.int .i64 x∧Aside0 (impl_WordSequence.lp kq d K t x o2 d2=some (out',wd'))∧Aside0 (kq≤k)∧Aside0 (impl_WordSequence.St d K bk bo bw bs bd bx cx w0 w' o2 d2))
      case atStart=>exact⟨_,o1,d1,rfl,H,⟨Nat.le_refl _⟩,HS3⟩
      case round=>
        clear H HS3 hcw hcr q2 q3 q4 q5 q6 c1b
        obtain⟨x,o2,d2,rfl,HA,HKq,HS4⟩:=hrel
        cases gk with
        |zero=>exact absurd HA.out (by simp[impl_WordSequence.lp])
        |succ k1=>
          have h:=HA.out
          clear HA
          simp only[impl_WordSequence.lp]at h
          have hcd:wr.cell? ⟨bd,0,none⟩=some (.int .i64 d):=(blk_cell HS4.out.2.1 0).trans rfl
          by_cases e1:x<d
          · rw[if_pos e1]at h
            have e1b:decide (x<d)=true:=decide_eq_true e1
            clear e1
            rw[if_pos c4]at h
            by_cases e2:t<(d2.length:Int)
            case neg=>rw[if_neg e2]at h;cases h
            rw[if_pos e2]at h
            obtain⟨⟨o3,d3⟩,A1,h⟩:=Option.bind_eq_some_iff.mp h
            dsimp only at h
            have HA1:=Aside0.mk A1
            have H:=Aside0.mk h
            clear h A1
            have q4:=eq_true c4
            have q5:=eq_true e2
            have hcw:wr.cell? ⟨bw,0,none⟩=some (.slice (some ⟨bx,0,none⟩) d2.length cx):=(blk_cell HS4.out.2.2.2.2.1 0).trans rfl
            obtain⟨hct,hft⟩:=Kd.R_celln 0 HS4.out.2.2.2.2.2.1 t c4 e2
            have hcs:(wr.setCell ⟨bx,t.toNat,none⟩ (.int .i64 x)).cell? ⟨bs,0,none⟩=some (.func (.func 154) #[] #[.pointer (some ⟨bk,0,none⟩),.pointer (some ⟨bo,0,none⟩),.pointer (some ⟨bw,0,none⟩),.pointer (some ⟨bs,0,none⟩),.pointer (some ⟨bd,0,none⟩)]):=(blk_cell (HS4.out.put t x (by omega)).2.2.1 0).trans rfl
            go_wp2_with fail
            refine(ih k1 (by have:=HKq.out;omega) (wrap64 (t+1)) t o2 _ o3 d3 _ (HS4.out.put t x (by omega)) HA1.out).mono ?_
            rintro e W5 ⟨rfl,hS5⟩
            have HS5:=Aside0.mk hS5
            clear hS5 HA1 HS4
            go_wp2
            go_roundg k1
            case measure=>have:=HKq.out;omega
            case rel=>exact⟨_,o3,d3,by first|rfl|(simp;done)|(simp[*];done),H,⟨by have:=HKq.out;omega⟩,HS5⟩
          · rw[if_neg e1]at h
            have e1b:decide (x<d)=false:=decide_eq_false e1
            simp only[Option.some.injEq,Prod.mk.injEq]at h
            obtain⟨rfl,rfl⟩:=h
            go_wp2
            go_end0
            exact⟨rfl,HS4.out⟩
theorem impl_WordSequence.new {W:World} {o:Obj} {i:Nat} (h:i=W.heap.size):(W.alloc o).heap[i]? =some o:=by rw[h];exact blk_new W o
theorem impl_WordSequence.row {base n g:Nat} {W W0:World} {cells:Array Value} {xs:List Int} {ok:Nat→Prop} (hb:base≤g) (h:W.heap[g]? =some (.cells cells 2 (0,0))) (hl:xs.length=n) (hm:n≤1000) (hr:Reps ((Kd.int .i64).M W0 base (fun _=>True)) 1 xs cells.toList) (hok:ok g) :
    Kd.R (Kd.int .i64) 2 W base ok (.slice (some ⟨g,0,none⟩) n n) xs:=by
  subst hl
  have hs:cells.size=xs.length*1:=by have:=hr.1;simp at this;omega
  exact⟨fun k_ hk=>by obtain rfl:g=k_:=(Option.some.inj hk);exact hok,cells.toList,⟨by rw[Array.length_toList];exact hs,.inr ⟨g,xs.length,cells,rfl,hb,h,Nat.le_refl _,by simp[maxLen];omega,hs,List.take_of_length_le (by rw[Array.length_toList,hs];exact Nat.le_refl _)⟩⟩,hr.imp_ (fun p c hp=>hp)⟩
theorem impl_WordSequence.mk (n:Int) (h0:0≤n) (hl:n≤1000) (W:World):(Instr.makeSlice 24 (.int .i64 n) (.int .i64 n)).run Tryd.prog W=.ok (.slice (some ⟨W.heap.size,0,none⟩) n.toNat n.toNat) (W.alloc (.cells (madeCells (Value.int .i64 0).cells n.toNat) 2)):=by
  obtain⟨i0,hi,hzz⟩:=Option.map_eq_some_iff.1 info2
  simp only[Prod.mk.injEq]at hzz
  obtain⟨hz0,hz1,hz2⟩:=hzz
  have hr:=run_make (P:=Tryd.prog) W 24 2 i0 (.int .i64 0) Tryd.underlying24 hi hz0 .i64 .i64 n n (by omega) (by omega) (by rw[hz2];omega) (by omega)
  rw[hz1,Nat.mul_one]at hr
  exact hr
def impl_WordSequence.f (k:Nat) (d K:Int):Option (List Int × Int):=if d<1 then some ([],2)else if d>10 then some ([],2)else if K<1 then some ([],2)else if K>10 then some ([],2)else(impl_capped.f k d K 1024).bind fun c=>if c>1024 then some ([],3)else(impl_WordSequence.walk k d K 1 1 [] (List.replicate (K+1).toNat 0)).bind fun s=>some (s.1,0)
set_option maxHeartbeats 8000000 in
set_option maxRecDepth 100000 in
theorem impl_WordSequence.calls (k:Nat) (a0:Int) (a1:Int) (r1:List Int) (r2:Int) (w:World) (h:impl_WordSequence.f k a0 a1=some (r1,r2)) :
    Calls Tryd.prog 77 #[.int .i64 a0,.int .i64 a1] w fun e w'=>∃v0_:Value,e=.returned (.tuple #[v0_,.int .i64 r2])∧Kd.R (Kd.int .i64) 2 w' w.heap.size (fun _=>True) v0_ r1∧Below w.heap.size w w':=by
  have HB:=Aside0.mk (((Below.refl w.heap.size w).alloc (Nat.le_refl _) (.cells #[.int .i64 a0] 2)).alloc (by simp) (.cells #[.int .i64 a1] 2))
  have BD:=Aside0.mk (blk_alloc (blk_new w (.cells #[.int .i64 a0] 2)) (.cells #[.int .i64 a1] 2))
  have BK:=Aside0.mk (blk_new (w.alloc (.cells #[.int .i64 a0] 2)) (.cells #[.int .i64 a1] 2))
  rw[show(w.alloc (.cells #[.int .i64 a0] 2)).heap.size=w.heap.size+1 by simp]at BK
  unfold impl_WordSequence.f at h
  by_cases c1:a0<1
  · rw[if_pos c1]at h
    simp only[Option.some.injEq,Prod.mk.injEq]at h
    obtain⟨rfl,rfl⟩:=h
    have c1b:decide (a0<1)=true:=decide_eq_true c1
    go_enter Tryd.func77,Tryd.ntmps77
    go_wp2_with fail
    repeat(go_quiet(fail);try go_wp2)
    go_ret2
    exact⟨_,rfl,Kd.R_nil _ _ _ _ _,HB.out⟩
  rw[if_neg c1]at h
  have c1b:decide (a0<1)=false:=decide_eq_false c1
  by_cases c2:a0>10
  · rw[if_pos c2]at h
    simp only[Option.some.injEq,Prod.mk.injEq]at h
    obtain⟨rfl,rfl⟩:=h
    have c2b:decide (a0>10)=true:=decide_eq_true c2
    go_enter Tryd.func77,Tryd.ntmps77
    go_wp2_with fail
    repeat(go_quiet(fail);try go_wp2)
    go_ret2
    exact⟨_,rfl,Kd.R_nil _ _ _ _ _,HB.out⟩
  rw[if_neg c2]at h
  have c2b:decide (a0>10)=false:=decide_eq_false c2
  by_cases c3:a1<1
  · rw[if_pos c3]at h
    simp only[Option.some.injEq,Prod.mk.injEq]at h
    obtain⟨rfl,rfl⟩:=h
    have c3b:decide (a1<1)=true:=decide_eq_true c3
    go_enter Tryd.func77,Tryd.ntmps77
    go_wp2_with fail
    repeat(go_quiet(fail);try go_wp2)
    go_ret2
    exact⟨_,rfl,Kd.R_nil _ _ _ _ _,HB.out⟩
  rw[if_neg c3]at h
  have c3b:decide (a1<1)=false:=decide_eq_false c3
  by_cases c4:a1>10
  · rw[if_pos c4]at h
    simp only[Option.some.injEq,Prod.mk.injEq]at h
    obtain⟨rfl,rfl⟩:=h
    have c4b:decide (a1>10)=true:=decide_eq_true c4
    go_enter Tryd.func77,Tryd.ntmps77
    go_wp2_with fail
    repeat(go_quiet(fail);try go_wp2)
    go_ret2
    exact⟨_,rfl,Kd.R_nil _ _ _ _ _,HB.out⟩
  rw[if_neg c4]at h
  have c4b:decide (a1>10)=false:=decide_eq_false c4
  obtain⟨c,A1,h⟩:=Option.bind_eq_some_iff.mp h
  have HA1:=Aside0.mk A1
  have H:=Aside0.mk h
  clear A1 h
  go_enter Tryd.func77,Tryd.ntmps77
  go_wp2_with fail
  repeat(go_quiet(fail);try go_wp2_with fail)
  refine(impl_capped.calls k a0 a1 1024 c _ HA1.out).mono ?_
  rintro e W1 ⟨rfl,hb⟩
  have BD1:=Aside0.mk (blk_below BD.out hb)
  have BK1:=Aside0.mk (blk_below BK.out hb)
  have HB1:=Aside0.mk (below_then HB.out (below_size HB.out) hb)
  clear HB BD BK HA1 hb
  have h:=H.out
  by_cases c5:c>1024
  · rw[if_pos c5]at h
    simp only[Option.some.injEq,Prod.mk.injEq]at h
    obtain⟨rfl,rfl⟩:=h
    have c5b:decide (c>1024)=true:=decide_eq_true c5
    go_wp2
    go_ret2
    exact⟨_,rfl,Kd.R_nil _ _ _ _ _,HB1.out⟩
  rw[if_neg c5]at h
  have c5b:decide (c>1024)=false:=decide_eq_false c5
  obtain⟨⟨o1,d1⟩,A1,h⟩:=Option.bind_eq_some_iff.mp h
  dsimp only at h
  simp only[Option.some.injEq,Prod.mk.injEq]at h
  obtain⟨rfl,rfl⟩:=h
  have HA1:=Aside0.mk A1
  have HBD:=BD1
  clear A1 H
  have e11:wrap64 (a1+1)=a1+1:=by rw[wrap64,Int.emod_eq_of_lt (by omega) (by omega)];omega
  have hck:W1.cell? ⟨w.heap.size+1,0,none⟩=some (.int .i64 a1):=(blk_cell BK1.out 0).trans rfl
  have hmk:=impl_WordSequence.mk (IntKind.i64.wrap (a1+1)) (by rw[i64_w,e11];omega) (by rw[i64_w,e11];omega)
  rw[show(IntKind.i64.wrap (a1+1)).toNat=(a1+1).toNat by rw[i64_w,e11]]at hmk
  generalize hZ:madeCells (Value.int .i64 0).cells (a1+1).toNat=Z at hmk
  generalize hn:(a1+1).toNat=n at hmk
  rw[hn]at HA1
  have hzr:Reps ((Kd.int .i64).M W1 w.heap.size (fun _=>True)) 1 (List.replicate n (0:Int)) Z.toList:=by rw[← hZ,← hn];have:=Kd.reps_made (R:=(Kd.int .i64).M W1 w.heap.size (fun _=>True)) (z:=.int .i64 0) (size:=1) (z0:=(0:Int)) rfl (by decide) rfl (a1+1).toNat;rwa [Nat.mul_one]at this
  go_wp2
  have hlt:=blk_lt BK1.out
  rename_i K hK
  have hrest:∀(bo bw ga bx:Nat) (W':World),W'.heap[w.heap.size]? =some (.cells #[.int .i64 a0] 2 (0,0))→W'.heap[w.heap.size+1]? =some (.cells #[.int .i64 a1] 2 (0,0))→W'.heap[ga]? =some (.cells #[] 2 (0,0))→W'.heap[bx]? =some (.cells Z 2 (0,0))→
      W'.heap[bo]? =some (.cells #[.slice (some ⟨ga,0,none⟩) 0 0] 24 (0,0))→W'.heap[bw]? =some (.cells #[.slice (some ⟨bx,0,none⟩) n n] 24 (0,0))→W1.heap.size≤ga→W1.heap.size≤bx→W1.heap.size≤bo→W1.heap.size≤bw→ga≠bx→bo≠bw→Below w.heap.size w W'→
      K {tmps:=#[.int .i64 a0,.int .i64 a1,.pointer (some ⟨w.heap.size,0,none⟩),.pointer (some ⟨w.heap.size+1,0,none⟩),.slice none 0 0,.int .i64 0,.pointer (some ⟨bo,0,none⟩),.pointer (some ⟨bw,0,none⟩),undef,.bool false,.int .i64 a0,.bool false,.bool false,.int .i64 a0,.bool false,.bool false,.bool false,.int .i64 a1,.bool false,.bool false,.bool false,.int .i64 a1,.bool false,.bool false,.bool false,.int .i64 a0,.int .i64 a1,.int .i64 c,.bool false,.slice (some ⟨ga,0,none⟩) 0 0,.int .i64 a1,.int .i64 (IntKind.i64.wrap (a1+1)),.slice (some ⟨bx,0,none⟩) n n,undef,undef,undef,undef],defers:=[]} W':=by
    intro bo bw ga bx W' f1 f2 f3 f4 f5 f6 g1 g2 g3 g4 n1 n2 fb
    refine hK _ _ ?_
    dsimp only
    have hl1:=blk_lt BD1.out
    have hSt:impl_WordSequence.St a0 a1 (w.heap.size+1) bo bw W'.heap.size w.heap.size bx n w (W'.alloc (.cells #[.func (.func 154) #[] #[.pointer (some ⟨w.heap.size+1,0,none⟩),.pointer (some ⟨bo,0,none⟩),.pointer (some ⟨bw,0,none⟩),.pointer (some ⟨W'.heap.size,0,none⟩),.pointer (some ⟨w.heap.size,0,none⟩)]] 122)) [] (List.replicate n 0):=by
      refine⟨blk_alloc f2 _,blk_alloc f1 _,blk_new W' _,⟨_,blk_alloc f5 _,impl_WordSequence.row (W0:=W1) (by omega) (blk_alloc f3 _) rfl (by omega) (Reps.none _ _) ⟨by omega,by omega,n1⟩⟩,?_,?_,below_alloc fb _⟩
      · rw[List.length_replicate];exact blk_alloc f6 _
      · rw[List.length_replicate]
        exact impl_WordSequence.row (by omega) (blk_alloc f4 _) (List.length_replicate ..) (by omega) hzr ⟨by omega,by omega⟩
    have HS:=Aside0.mk hSt
    clear hSt f1 f2 f3 f4 f5 f6
    go_wp2_with fail
    refine(impl_WordSequence.lit a0 a1 (w.heap.size+1) bo bw W'.heap.size w.heap.size bx n w (by omega) n2 k k (Nat.le_refl _) 1 1 [] (List.replicate n 0) o1 d1 _ HS.out HA1.out).mono ?_
    rintro e W3 ⟨rfl,hS3⟩
    have HS3:=Aside0.mk hS3
    clear hS3 HS
    obtain⟨vo,hvo,hro⟩:=HS3.out.2.2.2.1
    obtain⟨Ao,co,rfl⟩:=Kd.R_slice hro
    have hco:W3.cell? ⟨bo,0,none⟩=some (.slice Ao o1.length co):=(blk_cell hvo 0).trans rfl
    go_wp2
    go_ret2
    exact⟨_,rfl,Kd.R_mono hro (fun _ _=>trivial),HS3.out.2.2.2.2.2.2⟩
  clear hK
  go_region_held3 (fun w_=>w_.cell? ⟨w.heap.size+1,0,none⟩=some (.int .i64 a1)) (repeat' (first|exact hck|refine(World.cell?_drew _ _).trans ?_|refine(World.cell?_alloc_lt _ _ _ ?_).trans ?_|refine(World.cell?_setCell_far _ _ _ _ ?_).trans ?_|(simp;omega)|omega)) (fail)
  all_goals
    refine hrest _ _ _ _ _ ?_ ?_ ?_ ?_ ?_ ?_ ?_ ?_ ?_ ?_ ?_ ?_ ?_
    all_goals first|omega|(repeat' (first|exact BD1.out|exact BK1.out|exact HB1.out|exact impl_WordSequence.new (by simp)|refine blk_drew ?_|refine blk_alloc ?_ _|apply below_alloc|apply below_drew))
mutual
def spec_l08Sequence.l0:Nat→Int→Int→List Int→List Int→Option (List Int)
  |0,_,_,_,_=>none
  |k+1,x0,x1,x5,x6=>if(x6.length:Int)>0 then(if(x6.length:Int)=0 then(none)else(if(Int.tmod x1 (x6.length:Int))=0 then(if x5.length+x6.length<17592186044416 then(spec_l08Sequence.j1 k x0 x1 (x5++x6) x6)else(none))else(spec_l08Sequence.j1 k x0 x1 x5 x6)))else(some x5)
def spec_l08Sequence.j1:Nat→Int→Int→List Int→List Int→Option (List Int)
  |0,_,_,_,_=>none
  |k+1,x0,x1,x5,x6=>spec_l08Sequence.l1 k x0 x1 x5 x6 (([]:List Int)) 0
def spec_l08Sequence.l1:Nat→Int→Int→List Int→List Int→List Int→Int→Option (List Int)
  |0,_,_,_,_,_,_=>none
  |k+1,x0,x1,x5,x6,x7,x8=>if x8<x1 then(if(x6.length:Int)=0 then(none)else(if 0≤(Int.tmod x8 (x6.length:Int))then(if(Int.tmod x8 (x6.length:Int))<(x6.length:Int)then(if x7.length<17592186044416 then(spec_l08Sequence.l1 k x0 x1 x5 x6 (x7++[rd x6 (Int.tmod x8 (x6.length:Int))]) (wrap64 (x8+1)))else(none))else(none))else(none)))else(spec_l08Sequence.l2 k x0 x1 x5 x7)
def spec_l08Sequence.l2:Nat→Int→Int→List Int→List Int→Option (List Int)
  |0,_,_,_,_=>none
  |k+1,x0,x1,x5,x7=>if(x7.length:Int)>0 then(if 0≤(wrap64 ((x7.length:Int)-1))then(if(wrap64 ((x7.length:Int)-1))<(x7.length:Int)then(if(rd x7 (wrap64 ((x7.length:Int)-1)))=(wrap64 (x0-1))then(if(wrap64 ((x7.length:Int)-1))≤(x7.length:Int)then(spec_l08Sequence.l2 k x0 x1 x5 (x7.take ((wrap64 ((x7.length:Int)-1)):Int).toNat))else(none))else(spec_l08Sequence.l0 k x0 x1 x5 (x7.set ((wrap64 ((x7.length:Int)-1)):Int).toNat (wrap64 ((rd x7 (wrap64 ((x7.length:Int)-1)))+1)))))else(none))else(none))else(spec_l08Sequence.l0 k x0 x1 x5 x7)
end
def spec_l08Sequence.f (k:Nat) (a0:Int) (a1:Int):Option (List Int):=spec_l08Sequence.l0 k a0 a1 (([]:List Int)) (([0]:List Int))
set_option maxHeartbeats 8000000 in
set_option maxRecDepth 100000 in
theorem spec_l08Sequence.calls (k:Nat) (a0:Int) (a1:Int) (r:List Int) (w:World) (h:spec_l08Sequence.f k a0 a1=some r) :
    Calls Tryd.prog 155 #[.int .i64 a0,.int .i64 a1] w fun e w'=>∃v0_:Value,e=.returned (v0_)∧Kd.R (Kd.int .i64) 2 w' w.heap.size (fun _=>True) v0_ r∧Below w.heap.size w w':=by
  (have HB:=Aside0.mk (Below.refl w.heap.size w));(have H:(spec_l08Sequence.l0 k a0 a1 (([]:List Int)) (([0]:List Int)))=some r:=h);clear h;(obtain⟨y555,hy555⟩:∃y_:List Int,y_=(([]:List Int)):=⟨_,rfl⟩);(replace H:(spec_l08Sequence.l0 k a0 a1 y555 (([0]:List Int)))=some r:=by first|(rw[hy555];with_reducible exact H)|(have H2_:=(Option.bind_some _ _).symm.trans H;rw[hy555];with_reducible exact H2_)|(have H2_:=(Option.bind_some _ _).symm.trans H;with_reducible exact H2_)|with_reducible exact H|(rw[hy555];exact H)|exact H);(have Ny555:=Aside0.mk hy555);clear hy555;(obtain⟨y558,Ny558⟩:=Ys (([0]:List Int)));(rw[← Ny558.out]at H);(have H':=Aside0.mk H);clear H;(go_enter Tryd.func155,Tryd.ntmps155);(go_wp2_with(first|((with_reducible refine gate_dst (N:=9) rfl ?_);refine Kd.R_lit (Kd.int .i64) _ 2 ?hg (N:=9) ?hd (xs:=([]:List Int)) (inner:=[]) (ok:=fun _=>True) (okp:=fun _=>True) ?hr ?hp (fun _ hk=>hk) trivial (Below.refl _ _) (Nat.le_refl _) (by simp) ?_;(case hd=>rfl);(case hg=>rfl);(case hr=>first|(go_simp;done)|(go_simp;rfl));(case hp=>exact(Reps.none _ _));intro v556 w3 ho4 hb hg_ hnew_;clear hg_ hnew_;(first|rw[← Ny555.out]at ho4|(simp only[Int.reduceToNat]at ho4;rw[← Ny555.out]at ho4));have HO557:=Aside0.mk (Kd.R_lower ho4 (below_size (Ya)));replace HB:=Aside0.mk (below_step (Ya) hb);clear hb ho4)|((with_reducible refine gate_dst (N:=10) rfl ?_);refine Kd.R_lit (Kd.int .i64) _ 2 ?hg (N:=10) ?hd (xs:=([0]:List Int)) (inner:=[.int .i64 0]) (ok:=fun _=>True) (okp:=fun _=>True) ?hr ?hp (fun _ hk=>hk) trivial (Below.refl _ _) (Nat.le_refl _) (by simp) ?_;(case hd=>rfl);(case hg=>rfl);(case hr=>first|(go_simp;done)|(go_simp;rfl));(case hp=>exact(Reps.one (show Kd.M (Kd.int .i64) _ _ _ 0 [.int .i64 0] from rfl) (Reps.none _ _)));intro v559 w5 ho6 hb hg_ hnew_;clear hg_ hnew_;(first|rw[← Ny558.out]at ho6|(simp only[Int.reduceToNat]at ho6;rw[← Ny558.out]at ho6));have HO560:=Aside0.mk (Kd.R_lower (Kd.R_new' ho6 (Kd.R_lt (YcR HO557))) (below_size (Ya)));replace HO557:=Aside0.mk (Kd.R_elder' (YcR HO557) (Kd.R_base ho6) hb);replace HB:=Aside0.mk (below_step (Ya) hb);clear hb ho6)));(go_loopg[5,6] k (fun kq v5 v6 w'=>∃(x5_1:List Int) (x6_1:List Int),Aside0 (spec_l08Sequence.l0 kq a0 a1 x5_1 x6_1=some r)∧Aside0 (kq≤k)∧Aside0 (Kd.R (Kd.int .i64) 2 w' w.heap.size (fun k_=>some k_≠(v6:Value).ownBlock) v5 x5_1)∧Aside0 (Kd.R (Kd.int .i64) 2 w' w.heap.size (fun k_=>some k_≠(v5:Value).ownBlock) v6 x6_1)∧Aside0 (Below w.heap.size w w')));(case atStart=>exact⟨(y555),(y558),H',⟨Nat.le_refl _⟩,⟨YbR (Kd.R_mono HO557.out (fun _ hk=>hk.2))⟩,⟨YbR (Kd.R_mono HO560.out (fun _ hk=>hk.2))⟩,⟨Ya⟩⟩)
  case round=>
    (clear H');(obtain⟨x5_1,x6_1,HA,HK1,HO_5,HO_6,HB⟩:=hrel)
    cases gk with
    |zero=>exact absurd HA.out (by simp[spec_l08Sequence.l0])
    |succ k1=>
      (have H:=HA.out);clear HA;(simp only[spec_l08Sequence.l0]at H);(replace H:=Yp H);(obtain⟨c7,H⟩|⟨c7,H⟩:=H)
      · have c7b0:=decide_eq_true c7
        (have c7b1:decide (0<x6_1.length)=true:=decide_eq_true (by omega));clear c7;(replace H:=Yo H);(obtain⟨c8,H⟩:=H);(have c8b0:((x6_1.length:Int)==0)=false:=beq_eq_false_iff_ne.mpr c8);(have c8b1:((x6_1.length:Int)!=0)=true:=bne_iff_ne.mpr c8);(have c8b2:¬(x6_1=[]):=fun h_=>c8 (by rw[h_];rfl));(have HC9:=Aside0.mk H);clear H;(obtain⟨Ao10,co10,eo10⟩:=Kd.R_slice HO_6.out);subst eo10;(go_upto_if 18 with(fail));(go_cut[5] (fun v5 wc=>∃(kq:Nat) (x5_8:List Int),Aside0 (spec_l08Sequence.j1 kq a0 a1 x5_8 x6_1=some r)∧Aside0 (kq≤k1)∧Aside0 (Kd.R (Kd.int .i64) 2 wc w.heap.size (fun k_=>some k_≠((.slice Ao10 x6_1.length co10):Value).ownBlock) v5 x5_8)∧Aside0 (Kd.R (Kd.int .i64) 2 wc w.heap.size (fun k_=>some k_≠(v5:Value).ownBlock) (.slice Ao10 x6_1.length co10) x6_1)∧Aside0 (Below w.heap.size w wc)))
        case first=>
          (have H:=HC9.out);clear HC9;(replace H:=Yp H);(obtain⟨c11,H⟩|⟨c11,H⟩:=H);(· (obtain⟨c11b0,c11b1⟩:=Yv c11);clear c11;(first|rw[c11b0]|(simp only[i64_w,i32_w];rw[c11b0])|skip);(replace H:=Ln H);(obtain⟨LMc12,H⟩:=H);(obtain⟨y561,hy561⟩:∃y_:List Int,y_=(x5_1++x6_1):=⟨_,rfl⟩);(replace H:(spec_l08Sequence.j1 k1 a0 a1 y561 x6_1)=some r:=by first|(rw[hy561];with_reducible exact H)|(have H2_:=(Option.bind_some _ _).symm.trans H;rw[hy561];with_reducible exact H2_)|(have H2_:=(Option.bind_some _ _).symm.trans H;with_reducible exact H2_)|with_reducible exact H|(rw[hy561];exact H)|exact H);(have Ny561:=Aside0.mk hy561);clear hy561;(have H':=Aside0.mk H);clear H;(go_wp2_with(first|((with_reducible refine gate_builtin (b:=.append) (xs:=#[.tmp 19,.tmp 20]) rfl ?_);at_builtin;refine Kd.R_append_rows (Kd.int .i64) (w0:=w) w.heap.size rfl (.tmp 19) (.tmp 20) 24 2 (.int .i64 0) 8 rfl Tryd.underlying24 info2 rfl (by decide) (by omega) u5 x5_1 x6_1 _ _ _ (fun k_=>some k_≠(.slice Ao10 x6_1.length co10:Value).ownBlock) (fun _=>False) rfl rfl ?aO ?aR (fun _ _ h=>h) (fun _ h=>h.elim) ?aF ?aB ?aS ?aL ?_;(case aR=>exact Yg ((Kd.R_reads' HO_6.out).2.2));(case aB=>exact(Ya));(case aF=>exact(fun k_ hk=>Kd.fresh' (Kd.R_lt (YcR HO_6)) k_ hk));(case aO=>exact(YcR HO_5));(case aS=>exact(below_size (Ya)));(case aL=>have:=LMc12.out;omega);intro v562 w13 ho hb hg hat;rw[← Ny561.out]at ho;have n0_:=Aside0.mk (Kd.R_after (ok:=(fun _=>True)) (YbR (Kd.R_mono HO_6.out (fun _ hk=>⟨trivial,hk⟩))) hg hat);have n1_:=Aside0.mk (hb);have n2_:=Aside0.mk (ho);clear HO_6;clear HB;clear HO_5;have HO_6:=n0_;have HB:=n1_;have HO563:=n2_;clear n0_ n1_ n2_;clear ho hb hg hat)));(go_meet);(case rel=>exact⟨_,(y561),H',⟨by have:=HK1.out;first|omega|exact Nat.le_refl _⟩,⟨YcR HO563⟩,⟨YbR (Kd.R_mono HO_6.out (fun _ hk=>hk.2))⟩,⟨Ya⟩⟩));(· (obtain⟨c11b0,c11b1⟩:=Yw c11);(first|rw[c11b0]|(simp only[i64_w,i32_w];rw[c11b0])|skip);(have H':=Aside0.mk H);clear H;go_wp2;(go_meet);(case rel=>exact⟨_,(x5_1),H',⟨by have:=HK1.out;first|omega|exact Nat.le_refl _⟩,⟨YcR HO_5⟩,⟨YcR HO_6⟩,⟨Ya⟩⟩))
        case rest=>
          clear HC9;(try clear c7b0);(try clear c7b1);(try clear c8);(try clear c8b0);(try clear c8b1);(try clear c8b2);(obtain⟨kq,x5_8,HA,HJ8,HO_5,HO_6,HB⟩:=hcut)
          cases kq with
          |zero=>exact absurd HA.out (by simp[spec_l08Sequence.j1])
          |succ kj8=>
            (have H:=HA.out);clear HA;(simp only[spec_l08Sequence.j1]at H);(obtain⟨y564,hy564⟩:∃y_:List Int,y_=(([]:List Int)):=⟨_,rfl⟩);(replace H:(spec_l08Sequence.l1 kj8 a0 a1 x5_8 x6_1 y564 0)=some r:=by first|(rw[hy564];with_reducible exact H)|(have H2_:=(Option.bind_some _ _).symm.trans H;rw[hy564];with_reducible exact H2_)|(have H2_:=(Option.bind_some _ _).symm.trans H;with_reducible exact H2_)|with_reducible exact H|(rw[hy564];exact H)|exact H);(have Ny564:=Aside0.mk hy564);clear hy564;(have H':=Aside0.mk H);clear H;(go_wp2_with(first|((with_reducible refine gate_dst (N:=22) rfl ?_);refine Kd.R_lit (Kd.int .i64) _ 2 ?hg (N:=22) ?hd (xs:=([]:List Int)) (inner:=[]) (ok:=fun _=>True) (okp:=fun _=>True) ?hr ?hp (fun _ hk=>hk) trivial (Below.refl _ _) (Nat.le_refl _) (by simp) ?_;(case hd=>rfl);(case hg=>rfl);(case hr=>first|(go_simp;done)|(go_simp;rfl));(case hp=>exact(Reps.none _ _));intro v565 w14 ho15 hb hg_ hnew_;clear hg_ hnew_;(first|rw[← Ny564.out]at ho15|(simp only[Int.reduceToNat]at ho15;rw[← Ny564.out]at ho15));have HO566:=Aside0.mk (Kd.R_lower (Kd.R_new' (Kd.R_new' ho15 (Kd.R_lt (YcR HO_5))) (Kd.R_lt (YcR HO_6))) (below_size (Ya)));replace HO_5:=Aside0.mk (Kd.R_elder' (YcR HO_5) (Kd.R_base ho15) hb);replace HO_6:=Aside0.mk (Kd.R_elder' (YcR HO_6) (Kd.R_base ho15) hb);replace HB:=Aside0.mk (below_step (Ya) hb);clear hb ho15)));(go_loopg[7,8] kj8 (fun kq v7 v8 w'=>∃(x7_3:List Int) (x8_3:Int),v8=.int .i64 x8_3∧Aside0 (spec_l08Sequence.l1 kq a0 a1 x5_8 x6_1 x7_3 x8_3=some r)∧Aside0 (kq≤kj8)∧Aside0 (Kd.R (Kd.int .i64) 2 w' w.heap.size (fun k_=>some k_≠((.slice Ao10 x6_1.length co10):Value).ownBlock∧some k_≠(v7:Value).ownBlock) u5 x5_8)∧Aside0 (Kd.R (Kd.int .i64) 2 w' w.heap.size (fun k_=>some k_≠(u5:Value).ownBlock∧some k_≠(v7:Value).ownBlock) (.slice Ao10 x6_1.length co10) x6_1)∧Aside0 (Kd.R (Kd.int .i64) 2 w' w.heap.size (fun k_=>some k_≠(u5:Value).ownBlock∧some k_≠((.slice Ao10 x6_1.length co10):Value).ownBlock) v7 x7_3)∧Aside0 (Below w.heap.size w w')));(case atStart=>exact⟨(y564),(0),Yk,H',⟨Nat.le_refl _⟩,⟨YcR HO_5⟩,⟨YcR HO_6⟩,⟨YbR (Kd.R_mono HO566.out (fun _ hk=>⟨hk.1.2,hk.2⟩))⟩,⟨Ya⟩⟩)
            case round=>
              (clear H');(try clear c7b0);(try clear c7b1);(try clear c8);(try clear c8b0);(try clear c8b1);(try clear c8b2);(obtain⟨x7_3,x8_3,rfl,HA,HK3,HO_5,HO_6,HO_7,HB⟩:=hrel)
              cases gk with
              |zero=>exact absurd HA.out (by simp[spec_l08Sequence.l1])
              |succ k3=>
                (have H:=HA.out);clear HA;(simp only[spec_l08Sequence.l1]at H);(replace H:=Yp H);(obtain⟨c16,H⟩|⟨c16,H⟩:=H);(· (have c16b0:=decide_eq_true c16);clear c16;(replace H:=Yo H);(obtain⟨c17,H⟩:=H);(have c17b0:((x6_1.length:Int)==0)=false:=beq_eq_false_iff_ne.mpr c17);(have c17b1:((x6_1.length:Int)!=0)=true:=bne_iff_ne.mpr c17);(have c17b2:¬(x6_1=[]):=fun h_=>c17 (by rw[h_];rfl));(obtain⟨ji18,hji18⟩:=Yt (Int.tmod x8_3 (x6_1.length:Int)));(try simp only[hji18]at H);(replace H:=Dn2 H);(obtain⟨c19b0,c20b0,H⟩:=H);(replace H:=Ln H);(obtain⟨LMc21,H⟩:=H);(obtain⟨y568,Ny568⟩:=Ys (x7_3++[rd x6_1 (ji18)]:List Int));(rw[← Ny568.out]at H);(have H':=Aside0.mk H);clear H;(have p567:0≤((ji18):Int):=Ym);(have q567:(ji18)<(x6_1.length:Int):=Ym);(obtain⟨ad567,e567,hx567_0⟩:=Kd.at_int (Kd.R_reads' HO_6.out).2.2 (ji18) p567 q567);(cases e567);(replace p567:=eq_true p567);(replace q567:=eq_true q567);(go_wp2_with(first|((with_reducible refine gate_builtin (b:=.append) (xs:=#[.tmp 28,.tmp 36]) rfl ?_);at_builtin;refine Kd.R_append (Kd.int .i64) (w0:=w) w.heap.size rfl (.tmp 28) (.tmp 36) 24 2 (.int .i64 0) 8 rfl Tryd.underlying24 info2 rfl (by decide) (by omega) u7 x7_3 (rd x6_1 (ji18)) [.int .i64 (rd x6_1 (ji18))] (fun k_=>some k_≠(u5:Value).ownBlock∧some k_≠(.slice (some ad567) x6_1.length co10:Value).ownBlock) (fun _=>False) rfl rfl ?aP (fun _ hk=>hk.elim) ?aF ?aO ?aB ?aS ?aL ?_;(case aP=>exact rfl);(case aB=>exact(Ya));(case aF=>exact(fun k_ hk=>⟨Kd.fresh' (Kd.R_lt (YcR HO_5)) k_ hk,Kd.fresh' (Kd.R_lt (YcR HO_6)) k_ hk⟩));(case aO=>exact(YcR HO_7));(case aS=>exact(below_size (Ya)));(case aL=>have:=LMc21.out;omega);intro v569 w22 ho hb hg hat;rw[← Ny568.out]at ho;have n0_:=Aside0.mk (Kd.R_after (ok:=(fun k_=>some k_≠(.slice (some ad567) x6_1.length co10:Value).ownBlock)) (YcR HO_5) hg hat);have n1_:=Aside0.mk (Kd.R_after (ok:=(fun k_=>some k_≠(u5:Value).ownBlock)) (YcR HO_6) hg hat);have n2_:=Aside0.mk (hb);have n3_:=Aside0.mk (ho);clear HO_5;clear HO_6;clear HB;clear HO_7;have HO_5:=n0_;have HO_6:=n1_;have HB:=n2_;have HO570:=n3_;clear n0_ n1_ n2_ n3_;clear ho hb hg hat)));(go_roundg k3);(case measure=>have:=HK1.out;have:=HJ8.out;have:=HK3.out;omega);(case rel=>exact⟨(y568),(wrap64 (x8_3+1)),Yk,H',⟨by have:=HK1.out;have:=HJ8.out;have:=HK3.out;omega⟩,⟨YcR HO_5⟩,⟨YcR HO_6⟩,⟨YcR HO570⟩,⟨Ya⟩⟩))
                · have c16b0:=decide_eq_false c16
                  clear c16;(have H':=Aside0.mk H);clear H;go_wp2;(go_loopg[7] k3 (fun kq v7 w'=>∃(x7_4:List Int),Aside0 (spec_l08Sequence.l2 kq a0 a1 x5_8 x7_4=some r)∧Aside0 (kq≤k3)∧Aside0 (Kd.R (Kd.int .i64) 2 w' w.heap.size (fun k_=>some k_≠(v7:Value).ownBlock) u5 x5_8)∧Aside0 (Kd.R (Kd.int .i64) 2 w' w.heap.size (fun k_=>some k_≠(u5:Value).ownBlock) v7 x7_4)∧Aside0 (Below w.heap.size w w')));(case atStart=>exact⟨(x7_3),H',⟨Nat.le_refl _⟩,⟨YbR (Kd.R_mono HO_5.out (fun _ hk=>hk.2))⟩,⟨YbR (Kd.R_mono HO_7.out (fun _ hk=>hk.1))⟩,⟨Ya⟩⟩)
                  case round=>
                    (clear H');(try clear c7b0);(try clear c7b1);(try clear c8);(try clear c8b0);(try clear c8b1);(try clear c8b2);(try clear c16b0);(obtain⟨x7_4,HA,HK4,HO_5,HO_7,HB⟩:=hrel)
                    cases gk with
                    |zero=>exact absurd HA.out (by simp[spec_l08Sequence.l2])
                    |succ k4=>
                      (have H:=HA.out);clear HA;(simp only[spec_l08Sequence.l2]at H);(replace H:=Yp H);(obtain⟨c23,H⟩|⟨c23,H⟩:=H);(· (have c23b0:=decide_eq_true c23);(have c23b1:decide (0<x7_4.length)=true:=decide_eq_true (by omega));clear c23;(obtain⟨ji24,hji24⟩:=Yt (wrap64 ((x7_4.length:Int)-1)));(try simp only[hji24]at H);(have hji24w:(IntKind.i64.wrap ((x7_4.length:Int)-1))=ji24:=(i64_w _).trans hji24);(replace H:=Dn2 H);(obtain⟨c25b0,c26b0,H⟩:=H);(replace H:=Yp H);(obtain⟨c27,H⟩|⟨c27,H⟩:=H);(· (obtain⟨c27b0,c27b1⟩:=Yv c27);clear c27;(replace H:=En H);(obtain⟨c28b0,c28b1,H⟩:=H);(obtain⟨y572,Ny572⟩:=Ys (x7_4.take ((ji24):Int).toNat:List Int));(rw[← Ny572.out]at H);(have H':=Aside0.mk H);clear H;(obtain⟨Ao29,co29,eo29⟩:=Kd.R_slice HO_7.out);subst eo29;(have p571:0≤((ji24):Int):=Ym);(have q571:(ji24)<(x7_4.length:Int):=Ym);(obtain⟨ad571,e571,hx571_0⟩:=Kd.at_int (Kd.R_reads' HO_7.out).2.2 (ji24) p571 q571);(cases e571);(replace p571:=eq_true p571);(replace q571:=eq_true q571);(have q30:((ji24):Int)≤((x7_4.length:Int):Int):=Ym);(obtain⟨i030,hi030,_,hsz30,_⟩:=info_parts info2);(have hcut30:=cut_to (P:=Tryd.prog) 24 2 .i64 Tryd.underlying24 hi030 (some ad571) x7_4.length co29 (ji24) (Ym) q30 (Kd.R_reads' HO_7.out).2.1);(have hr30:=Kd.R_take (m:=((ji24):Int).toNat) HO_7.out (by omega));(have hy30:y572.length=((ji24):Int).toNat:=(by rw[Ny572.out,List.length_take];omega));(rw[← Ny572.out]at hr30);(rw[← hy30]at hr30 hcut30);clear hy30 hi030 hsz30 HO_7;(have HO574:=Aside0.mk hr30);clear hr30;(replace q30:=eq_true q30);go_wp2;(go_roundg k4);(case measure=>have:=HK1.out;have:=HJ8.out;have:=HK3.out;have:=HK4.out;omega);(case rel=>exact⟨(y572),H',⟨by have:=HK1.out;have:=HJ8.out;have:=HK3.out;have:=HK4.out;omega⟩,⟨YcR HO_5⟩,⟨YcR HO574⟩,⟨Ya⟩⟩));(· (obtain⟨c27b0,c27b1⟩:=Yw c27);(obtain⟨y576,Ny576⟩:=Ys (x7_4.set ((ji24):Int).toNat (wrap64 ((rd x7_4 (ji24))+1)):List Int));(rw[← Ny576.out]at H);(have H':=Aside0.mk H);clear H;(obtain⟨Ao32,co32,eo32⟩:=Kd.R_slice HO_7.out);subst eo32;(have p571:0≤((ji24):Int):=Ym);(have q571:(ji24)<(x7_4.length:Int):=Ym);(obtain⟨ad571,e571,hx571_0⟩:=Kd.at_int (Kd.R_reads' HO_7.out).2.2 (ji24) p571 q571);(cases e571);(replace p571:=eq_true p571);(replace q571:=eq_true q571);(have p575:0≤((ji24):Int):=Ym);(have q575:(ji24)<(x7_4.length:Int):=Ym);(obtain⟨ad575,e575,hx575_0⟩:=Kd.at_int (Kd.R_reads' HO_7.out).2.2 (ji24) p575 q575);(obtain rfl:ad571=ad575:=(by injection e575));(replace p575:=eq_true p575);(replace q575:=eq_true q575);(have p31:0≤((ji24):Int):=Ym);(have q31:((ji24):Int)<((x7_4.length:Int):Int):=Ym);(obtain⟨go31,co31,eo31,gb31,gl31,cl31,HG31⟩:=Kd.R_form HO_7.out (by omega));(first|cases eo31|(injection eo31 with ea_ en_ ec_;(first|subst ea_|(injection ea_ with ea_;subst ea_));subst ec_;clear en_));(have GB31:=Aside0.mk gb31);(have GG31:=Aside0.mk HG31);clear gb31 gl31 HG31;(first|simp only[add_plain]at hx571_0|skip);(first|simp only[add_plain]at hx575_0|skip);(obtain⟨hx31_0,hf31_0⟩:=Kd.R_celln 0 HO_7.out ((ji24):Int) p31 q31);(replace p31:=eq_true p31);(replace q31:=eq_true q31);(have HP33:=Kd.R_putg HO_7.out ((ji24):Int) (wrap64 ((rd x7_4 (ji24))+1)));(go_wp2_with(first|((with_reducible refine gate_store (t:=2) (p:=67) rfl ?_);refine store_event (t:=2) (p:=67) (v:=?vo_w34) (w1:=(wr.setCell ⟨go31,((ji24):Int).toNat,none⟩ (.int .i64 (wrap64 ((rd x7_4 (ji24))+1))))) ?hg ?ho ?hn ?hr ?_;(case ho=>rfl);(case hg=>rfl);(case hn=>rfl);(case hr=>first|(go_simp;done)|(go_simp;rfl));intro w34 hw;have hg:wr.grownBy w34 (some go31):=(by rw[hw];exact HP33.2);have hp_:Kd.R (Kd.int .i64) 2 w34 w.heap.size (fun k_=>some k_≠(u5:Value).ownBlock) (.slice (some ⟨go31,0,none⟩) x7_4.length co32) y576:=(by rw[hw,Ny576.out];exact HP33.1);clear HP33;replace HO_5:=Aside0.mk (Kd.R_after (v:=(.slice (some ⟨go31,0,none⟩) x7_4.length co32)) (v1:=(.slice (some ⟨go31,0,none⟩) x7_4.length co32)) (ok:=(fun _=>True)) (YbR (Kd.R_mono HO_5.out (fun _ hk=>⟨trivial,hk⟩))) hg (.inl rfl));replace HO_7:=Aside0.mk (hp_);replace HB:=Aside0.mk ((by rw[hw];exact below_set (HB.out) GB31.out:Below w.heap.size w w34));clear hg hw hp_)));(go_roundg k4);(case measure=>have:=HK1.out;have:=HJ8.out;have:=HK3.out;have:=HK4.out;omega);(case rel=>exact⟨(x5_8),(y576),H',⟨by have:=HK1.out;have:=HJ8.out;have:=HK3.out;have:=HK4.out;omega⟩,⟨YbR (Kd.R_mono HO_5.out (fun _ hk=>hk.2))⟩,⟨YcR HO_7⟩,⟨Ya⟩⟩)));(· (have c23b0:=decide_eq_false c23);(have c23b1:decide (0<x7_4.length)=false:=decide_eq_false (by omega));clear c23;(have H':=Aside0.mk H);clear H;(obtain⟨Ao35,co35,eo35⟩:=Kd.R_slice HO_7.out);subst eo35;go_wp2;(go_roundg k4);(case measure=>have:=HK1.out;have:=HJ8.out;have:=HK3.out;have:=HK4.out;omega);(case rel=>exact⟨(x5_8),(x7_4),H',⟨by have:=HK1.out;have:=HJ8.out;have:=HK3.out;have:=HK4.out;omega⟩,⟨YcR HO_5⟩,⟨YcR HO_7⟩,⟨Ya⟩⟩))
      · have c7b0:=decide_eq_false c7
        (have c7b1:decide (0<x6_1.length)=false:=decide_eq_false (by omega));clear c7;(obtain rfl:=Option.some.inj H);(obtain⟨Ao36,co36,eo36⟩:=Kd.R_slice HO_6.out);subst eo36;go_wp2;go_ret;(exact⟨_,Yl,YbR (Kd.R_mono HO_5.out (fun _ hk=>trivial)),Ya⟩)
mutual
def spec_WordSequence.j0:Nat→Int→Int→Bool→Option (List Int × Int)
  |0,_,_,_=>none
  |k+1,x0,x1,x15=>if x15=true then(some (([]:List Int),2))else(spec_WordSequence.l0 k x0 x1 1 0)
def spec_WordSequence.l0:Nat→Int→Int→Int→Int→Option (List Int × Int)
  |0,_,_,_,_=>none
  |k+1,x0,x1,x6,x7=>if x7<x1 then(spec_WordSequence.l0 k x0 x1 (mn (wrap64 (x6*x0)) 1025) (wrap64 (x7+1)))else(if x6>1024 then(some (([]:List Int),3))else((spec_l08Sequence.f k x0 x1).bind fun t579=>(some (t579,0))))
end
def spec_WordSequence.f (k:Nat) (a0:Int) (a1:Int):Option (List Int × Int):=(spec_l01In.f a0 1 10).bind fun t577=>(if t577=true then((spec_l01In.f a1 1 10).bind fun t578=>(spec_WordSequence.j0 k a0 a1 (!t578)))else(spec_WordSequence.j0 k a0 a1 true))
set_option maxHeartbeats 8000000 in
set_option maxRecDepth 100000 in
theorem spec_WordSequence.calls (k:Nat) (a0:Int) (a1:Int) (r1:List Int) (r2:Int) (w:World) (h:spec_WordSequence.f k a0 a1=some (r1,r2)) :
    Calls Tryd.prog 78 #[.int .i64 a0,.int .i64 a1] w fun e w'=>∃v0_:Value,e=.returned (.tuple #[v0_,.int .i64 r2])∧Kd.R (Kd.int .i64) 2 w' w.heap.size (fun _=>True) v0_ r1∧Below w.heap.size w w':=by
  (have HB:=Aside0.mk (Below.refl w.heap.size w));(have H:((spec_l01In.f a0 1 10).bind fun t577=>(if t577=true then((spec_l01In.f a1 1 10).bind fun t578=>(spec_WordSequence.j0 k a0 a1 (!t578)))else(spec_WordSequence.j0 k a0 a1 true)))=some (r1,r2):=h);clear h;(have HC3:=Aside0.mk H);clear H;(go_enter Tryd.func78,Tryd.ntmps78);(go_upto_region 1 with(fail));(go_cut[15] (fun v15 wc=>∃(kq:Nat) (x15_2:Bool),v15=.bool x15_2∧Aside0 (spec_WordSequence.j0 kq a0 a1 x15_2=some (r1,r2))∧Aside0 (kq≤k)∧Aside0 (Below w.heap.size w wc)))
  case first=>
    (have H:=HC3.out);clear HC3;(replace H:=Yq H);(obtain⟨t577,A4,H⟩:=H);(by_cases c5:t577=true);(· subst c5;(replace H:=Ybt H);(replace H:=Yq H);(obtain⟨t578,A6,H⟩:=H);(have H':=Aside0.mk H);clear H;(go_wp2_with(first|(refine Y5 98 (some 9) Tryd.func98 #[.int .i64 a0,.int .i64 1,.int .i64 10] ?_;(with_reducible refine(spec_l01In.calls a0 1 10 true _ A4.out).mono ?_);rintro e w' ⟨rfl,⟨nd,rfl⟩⟩;refine⟨_,rfl,?_⟩)|(go_at_call 98;(with_reducible refine(spec_l01In.calls a1 1 10 t578 _ A6.out).mono ?_);rintro e w' ⟨rfl,⟨nd,rfl⟩⟩)));(go_meet);(case rel=>exact⟨_,(!t578),Yk,H',⟨by first|omega|exact Nat.le_refl _⟩,⟨Ya⟩⟩));(· (replace c5:=Bool.eq_false_iff.mpr c5);subst c5;(replace H:=Ybf H);(have H':=Aside0.mk H);clear H;(go_wp2_with(first|(refine Y5 98 (some 9) Tryd.func98 #[.int .i64 a0,.int .i64 1,.int .i64 10] ?_;(with_reducible refine(spec_l01In.calls a0 1 10 false _ A4.out).mono ?_);rintro e w' ⟨rfl,⟨nd,rfl⟩⟩;refine⟨_,rfl,?_⟩)));(go_meet);(case rel=>exact⟨_,(true),Yk,H',⟨by first|omega|exact Nat.le_refl _⟩,⟨Ya⟩⟩))
  case rest=>
    clear HC3;(obtain⟨kq,x15_2,rfl,HA,HJ2,HB⟩:=hcut)
    cases kq with
    |zero=>exact absurd HA.out (by simp[spec_WordSequence.j0])
    |succ kj2=>
      (have H:=HA.out);clear HA;(simp only[spec_WordSequence.j0]at H);(by_cases c7:x15_2=true);(· subst c7;(replace H:=Ybt H);(simp only[Option.some.injEq,Prod.mk.injEq]at H);(obtain⟨rfl,rfl⟩:=H);go_wp2;(go_ret2);(exact⟨_,Yl,by first|exact Kd.R_nil _ _ _ _ _|exact Kd.N_nil _ _ _ _ _|exact Kd.V_nil _ _ _ _ _|exact Kd.Q_nil _ _ _ _ _|exact Kd.S_nil _ _ _ _ _,Ya⟩))
      · replace c7:=Bool.eq_false_iff.mpr c7
        subst c7;(replace H:=Ybf H);(have H':=Aside0.mk H);clear H;go_wp2;(go_loopg[6,7] kj2 (fun kq v6 v7 w'=>∃(x6_2:Int) (x7_2:Int),v6=.int .i64 x6_2∧v7=.int .i64 x7_2∧Aside0 (spec_WordSequence.l0 kq a0 a1 x6_2 x7_2=some (r1,r2))∧Aside0 (kq≤kj2)∧Aside0 (Below w.heap.size w w')));(case atStart=>exact⟨(1),(0),Yk,Yk,H',⟨Nat.le_refl _⟩,⟨Ya⟩⟩)
        case round=>
          (clear H');(try clear c7);(obtain⟨x6_2,x7_2,rfl,rfl,HA,HK2,HB⟩:=hrel)
          cases gk with
          |zero=>exact absurd HA.out (by simp[spec_WordSequence.l0])
          |succ k2=>
            (have H:=HA.out);clear HA;(simp only[spec_WordSequence.l0]at H);(replace H:=Yp H);(obtain⟨c8,H⟩|⟨c8,H⟩:=H);(· (have c8b0:=decide_eq_true c8);clear c8;(obtain⟨ji9,hji9⟩:=Yt (mn (wrap64 (x6_2*a0)) 1025));(try simp only[hji9]at H);(have hji9_:(if 1025<(wrap64 (x6_2*a0))then 1025 else(wrap64 (x6_2*a0)))=ji9:=hji9);(have H':=Aside0.mk H);clear H;go_wp2;(go_roundg k2);(case measure=>have:=HJ2.out;have:=HK2.out;omega);(case rel=>exact⟨(ji9),(wrap64 (x7_2+1)),(by first|rfl|(simp;done)|(simp only[← hji9]<;>(first|rfl|simp))|(simp[*];done)),Yk,H',⟨by have:=HJ2.out;have:=HK2.out;omega⟩,⟨Ya⟩⟩))
            · have c8b0:=decide_eq_false c8
              clear c8;(replace H:=Yp H);(obtain⟨c10,H⟩|⟨c10,H⟩:=H);(· (have c10b0:=decide_eq_true c10);clear c10;(simp only[Option.some.injEq,Prod.mk.injEq]at H);(obtain⟨rfl,rfl⟩:=H);go_wp2;(go_ret2);(exact⟨_,Yl,by first|exact Kd.R_nil _ _ _ _ _|exact Kd.N_nil _ _ _ _ _|exact Kd.V_nil _ _ _ _ _|exact Kd.Q_nil _ _ _ _ _|exact Kd.S_nil _ _ _ _ _,Ya⟩))
              · have c10b0:=decide_eq_false c10
                clear c10;(replace H:=Yq H);(obtain⟨t579,A11,H⟩:=H);(simp only[Option.some.injEq,Prod.mk.injEq]at H);(obtain⟨rfl,rfl⟩:=H);(go_wp2_with(first|(refine Y5 155 (some 29) Tryd.func155 #[.int .i64 a0,.int .i64 a1] ?_;(with_reducible refine(spec_l08Sequence.calls k2 a0 a1 t579 _ A11.out).mono ?_);rintro e w12 ⟨v580,rfl,ho0,hb⟩;refine⟨_,rfl,?_⟩;have HO581:=Aside0.mk (Kd.R_lower ho0 (below_size (Ya)));replace HB:=Aside0.mk (below_step (Ya) hb);clear hb ho0)));(go_ret2);(exact⟨_,Yl,YcR HO581,Ya⟩)
end Go.Proofs.YtmofdldplbplbaaDoor.P
