-- Printed by a program of this workplace (wip/xp/xp.py), joined by wip/bin/mergeP.
import Derived.Test.YtmofdldplbplbaaDoorMFD0
namespace Go.Proofs.YtmofdldplbplbaaDoor.P
open Go.RowKit Go.Proofs.YtmofdldplbplbaaDoorW.PrintWords Go.Proofs.YtmofdldplbplbaaDoorW.PrintLast Go.Proofs.YtmofdldplbplbaaDoorW.PrintMore
attribute [local go_sem] max2_int min2_int max_two min_two max_three min_three max_four min_four
set_option linter.unusedVariables false
set_option linter.unusedSimpArgs false
def IsS126 (w0 W:World) (g:Nat) (f0:List Int) (f1:Int) (f2:Int):Prop:=∃A0 c0,W.heap[g]? =some (.cells #[.slice A0 f0.length c0,.int .i64 f1,.int .u64 f2] 126 (0,0))∧w0.heap.size≤g∧Kd.C (Kd.int .u8) w0 A0 f0.length f0
theorem IsS126.grown {w0 W:World} {g:Nat} {f0:List Int} {f1:Int} {f2:Int} {W1:World} {row:Option Nat} (h:IsS126 w0 W g f0 f1 f2) (hw:W.grownBy W1 row) (hne:some g≠row):IsS126 w0 W1 g f0 f1 f2:=by
  (obtain⟨A0,c0,hb,hg,a⟩:=h);(exact⟨A0,c0,blk_grown hb hw hne,hg,a⟩)
theorem IsS126.own_neN {w0 W:World} {g:Nat} {f0:List Int} {f1:Int} {f2:Int} {α:Type} {d:Kd α} {e:Nat} {base:Nat} {ok:Nat→Prop} {v:Value} {xs:List α} (h:IsS126 w0 W g f0 f1 f2) (ho:Kd.N d e W base ok v xs) (ht:e≠126):some g≠v.ownBlock:=by
  (obtain⟨A0,c0,hb,hg,a⟩:=h);(exact Kd.N_ne ho hb ht)
theorem IsS126.fresh {w0 W:World} {g:Nat} {f0:List Int} {f1:Int} {f2:Int} (h:IsS126 w0 W g f0 f1 f2):∀k,W.heap.size≤k→k≠g:=by
  (obtain⟨A0,c0,hb,hg,a⟩:=h);(exact Kd.freshB hb)
theorem IsS126.kept {w0 W:World} {g:Nat} {f0:List Int} {f1:Int} {f2:Int} {W1:World} {S:Nat→Prop} (h:IsS126 w0 W g f0 f1 f2) (hk:Kept W W1 S) (hne:¬S g):IsS126 w0 W1 g f0 f1 f2:=by
  (obtain⟨A0,c0,hb,hg,a⟩:=h);(exact⟨A0,c0,blk_kept hb hk hne,hg,a⟩)
theorem IsS126.below {w0 W:World} {g:Nat} {f0:List Int} {f1:Int} {f2:Int} {W1:World} (h:IsS126 w0 W g f0 f1 f2) (hw:Below W.heap.size W W1):IsS126 w0 W1 g f0 f1 f2:=h.grown (grown_of_below hw none) (by simp)
theorem IsS126.alloc {w0 W:World} {g:Nat} {f0:List Int} {f1:Int} {f2:Int} (h:IsS126 w0 W g f0 f1 f2) (o:Obj):IsS126 w0 (W.alloc o) g f0 f1 f2:=h.below (below_alloc (Below.refl _ _) o)
theorem IsS126.drewN {w0 W:World} {g:Nat} {f0:List Int} {f1:Int} {f2:Int} (h:IsS126 w0 W g f0 f1 f2) (m:Nat):IsS126 w0 (W.drewN m) g f0 f1 f2:=h
theorem IsS126.drew {w0 W:World} {g:Nat} {f0:List Int} {f1:Int} {f2:Int} (h:IsS126 w0 W g f0 f1 f2):IsS126 w0 W.drew g f0 f1 f2:=h
theorem IsS126.at_ {w0 W:World} {g:Nat} {f0:List Int} {f1:Int} {f2:Int} {w':World} {m:Nat} (hq:W.drewN m=w') (h:IsS126 w0 W g f0 f1 f2):IsS126 w0 w' g f0 f1 f2:=by subst hq;exact IsS126.drewN h m
theorem IsS126.apart {w0 W:World} {g:Nat} {f0:List Int} {f1:Int} {f2:Int} {α:Type} {d:Kd α} {e:Nat} {base:Nat} {ok:Nat→Prop} {v:Value} {xs:List α} (h:IsS126 w0 W g f0 f1 f2) (ho:d.R e W base ok v xs) (ht:∀q,q ∈ e :: d.E→q≠126):d.R e W base (fun k=>ok k∧k≠g) v xs:=by
  (obtain⟨A0,c0,hb,hg,a⟩:=h);(exact Kd.R_types ho hb ht)
theorem IsS126.own_ne {w0 W:World} {g:Nat} {f0:List Int} {f1:Int} {f2:Int} {α:Type} {d:Kd α} {e:Nat} {base:Nat} {ok:Nat→Prop} {v:Value} {xs:List α} (h:IsS126 w0 W g f0 f1 f2) (ho:d.R e W base ok v xs) (ht:e≠126):some g≠v.ownBlock:=by
  (obtain⟨A0,c0,hb,hg,a⟩:=h);(exact Kd.R_ne ho hb ht)
theorem IsS126.apartQ {w0 W:World} {g:Nat} {f0:List Int} {f1:Int} {f2:Int} {α:Type} {d:Kd α} {e:Nat} {base:Nat} {ok:Nat→Prop} {v:Value} {xs:List α} (h:IsS126 w0 W g f0 f1 f2) (ho:d.Q e W base ok v xs) (ht:∀q,q ∈ e :: d.E→q≠126):d.Q e W base (fun k=>ok k∧k≠g) v xs:=by
  (obtain⟨A0,c0,hb,hg,a⟩:=h);(exact Kd.Q_types ho hb ht)
theorem IsS126.own_neQ {w0 W:World} {g:Nat} {f0:List Int} {f1:Int} {f2:Int} {α:Type} {d:Kd α} {e:Nat} {base:Nat} {ok:Nat→Prop} {v:Value} {xs:List α} (h:IsS126 w0 W g f0 f1 f2) (ho:d.Q e W base ok v xs) (ht:e≠126):some g≠v.ownBlock:=by
  (obtain⟨A0,c0,hb,hg,a⟩:=h);(exact Kd.Q_ne ho hb ht)
theorem IsS126.apartS {w0 W:World} {g:Nat} {f0:List Int} {f1:Int} {f2:Int} {α:Type} {d:Kd α} {e:Nat} {base:Nat} {ok:Nat→Prop} {v:Value} {xs:List α} (h:IsS126 w0 W g f0 f1 f2) (ho:d.S e W base ok v xs) (ht:∀q,q ∈ e :: d.E→q≠126):d.S e W base (fun k=>ok k∧k≠g) v xs:=by
  (obtain⟨A0,c0,hb,hg,a⟩:=h);(exact Kd.S_types ho hb ht)
theorem IsS126.own_neS {w0 W:World} {g:Nat} {f0:List Int} {f1:Int} {f2:Int} {α:Type} {d:Kd α} {e:Nat} {base:Nat} {ok:Nat→Prop} {v:Value} {xs:List α} (h:IsS126 w0 W g f0 f1 f2) (ho:d.S e W base ok v xs) (ht:e≠126):some g≠v.ownBlock:=by
  (obtain⟨A0,c0,hb,hg,a⟩:=h);(exact Kd.S_ne ho hb ht)
theorem IsS126.lt {w0 W:World} {g:Nat} {f0:List Int} {f1:Int} {f2:Int} (h:IsS126 w0 W g f0 f1 f2):g<W.heap.size:=by
  (obtain⟨A0,c0,hb,hg,a⟩:=h);(exact blk_lt hb)
theorem IsS126.ge {w0 W:World} {g:Nat} {f0:List Int} {f1:Int} {f2:Int} (h:IsS126 w0 W g f0 f1 f2):w0.heap.size≤g:=by
  (obtain⟨A0,c0,hb,hg,a⟩:=h);(exact hg)
theorem IsS126.ne_blk {w0 W:World} {g:Nat} {f0:List Int} {f1:Int} {f2:Int} {a:Nat} {cs:Array Value} {t:TypeId} {fr:Nat × Nat} (h:IsS126 w0 W g f0 f1 f2) (b:W.heap[a]? =some (.cells cs t fr)) (ht:t≠126):g≠a:=by
  (obtain⟨A0,c0,hb,hg,d⟩:=h);rintro rfl;rw[hb]at b;(injection b with b);(injection b with _ c);(exact ht c.symm)
theorem IsS126.far {w0 W:World} {g:Nat} {f0:List Int} {f1:Int} {f2:Int} {p:Addr} (h:IsS126 w0 W g f0 f1 f2) (hne:g≠p.block) (u:Value):IsS126 w0 (W.setCell p u) g f0 f1 f2:=by
  (obtain⟨A0,c0,hb,hg,a⟩:=h);(exact⟨A0,c0,blk_far hb hne u,hg,a⟩)
theorem cellS126_0 {W:World} {g:Nat} {A0:Option Addr} {c0:Nat} {f0:List Int} {f1:Int} {f2:Int} (h:W.heap[g]? =some (.cells #[.slice A0 f0.length c0,.int .i64 f1,.int .u64 f2] 126 (0,0))):W.cell? ⟨g,0,none⟩=some (.slice A0 f0.length c0):=(blk_cell h 0).trans rfl
theorem cellS126_1 {W:World} {g:Nat} {A0:Option Addr} {c0:Nat} {f0:List Int} {f1:Int} {f2:Int} (h:W.heap[g]? =some (.cells #[.slice A0 f0.length c0,.int .i64 f1,.int .u64 f2] 126 (0,0))):W.cell? ⟨g,1,none⟩=some (.int .i64 f1):=(blk_cell h 1).trans rfl
theorem IsS126.set_1 {w0 W:World} {g:Nat} {f0:List Int} {f1:Int} {f2:Int} (h:IsS126 w0 W g f0 f1 f2) (x:Int):IsS126 w0 (W.setCell ⟨g,1,none⟩ (.int .i64 x)) g f0 x f2:=by
  (obtain⟨A0,c0,hb,hg,a⟩:=h);(exact⟨A0,c0,by simpa using blk_set hb 1 (.int .i64 x),hg,a⟩)
theorem cellS126_2 {W:World} {g:Nat} {A0:Option Addr} {c0:Nat} {f0:List Int} {f1:Int} {f2:Int} (h:W.heap[g]? =some (.cells #[.slice A0 f0.length c0,.int .i64 f1,.int .u64 f2] 126 (0,0))):W.cell? ⟨g,2,none⟩=some (.int .u64 f2):=(blk_cell h 2).trans rfl
theorem IsS126.set_2 {w0 W:World} {g:Nat} {f0:List Int} {f1:Int} {f2:Int} (h:IsS126 w0 W g f0 f1 f2) (x:Int):IsS126 w0 (W.setCell ⟨g,2,none⟩ (.int .u64 x)) g f0 f1 x:=by
  (obtain⟨A0,c0,hb,hg,a⟩:=h);(exact⟨A0,c0,by simpa using blk_set hb 2 (.int .u64 x),hg,a⟩)
theorem IsS126.new (w0 W:World) (A0:Option Addr) (c0:Nat) (f0:List Int) (f1:Int) (f2:Int) (hB:Below w0.heap.size w0 W) (a:Kd.C (Kd.int .u8) w0 A0 f0.length f0):IsS126 w0 (W.alloc (.cells #[.slice A0 f0.length c0,.int .i64 f1,.int .u64 f2] 126)) W.heap.size f0 f1 f2:=⟨A0,c0,by simpa using heap_alloc_new W _,hB.size,a⟩
theorem Yx126 {w0 W:World} {g:Nat} {f0:List Int} {f1:Int} {f2:Int} (h:IsS126 w0 W g f0 f1 f2:=by repeat(first|(with_reducible first|exact Aside0.out (by assumption)|apply IsS126.alloc|apply IsS126.drewN|apply IsS126.drew|apply IsS126.set_1|apply IsS126.set_2|refine IsS126.far ?_ (Aside0.out (by assumption)) _)|exact Aside0.out (by assumption))):IsS126 w0 W g f0 f1 f2:=h
theorem Yz126 {n:Nat} {w w':World} (h:Below n w w':=by repeat(first|(with_reducible first|exact Aside0.out (by assumption)|apply below_alloc|apply pw_below_drewN|apply below_drew1|refine below_set ?_ (Aside0.out (by assumption))|refine below_set ?_ (IsS126.ge (Aside0.out (by assumption))))|exact Aside0.out (by assumption))):Below n w w':=h
def Qas.l0:Nat→List Int→Int→List Int→Int→Int→Option (List Int × Int × Int)
  |0,_,_,_,_,_=>none
  |k+1,x0,x4,a,b,c=>if x4<(x0.length:Int)then(if x4<4096 then(if 0≤x4 then(Qas.l0 k x0 (wrap64 (x4+1)) a b (IntKind.u64.wrap ((IntKind.u64.wrap ((IntKind.u64.wrap (c*1099511628211))+(IntKind.u64.wrap (rd x0 x4))))+157)))else(none))else(some (a,b,c)))else(some (a,b,c))
def Qas.f (k:Nat) (l0:List Int):Option (List Int × Int × Int):=Qas.l0 k l0 0 l0 0 (IntKind.u64.wrap (13311+(IntKind.u64.wrap ((l0.length:Int)))))
def Qas.T5:Bool × List (List Nat × List Nat):=(true,[([],[]),([],[]),([1],[1]),([2],[2]),([3],[3]),([4],[4]),([],[]),([],[]),([6,7],[6,7]),([8],[8]),([9],[9]),([5,10],[5,10]),([11],[11]),([0,0,1,2,3,4,5,6,7,8,9,10,11,12],[0]),([13,0,1,2,3,4,5,6,7,8,9,10,11,12],[13]),([14,12,0,1,2,3,4,5,6,7,8,9,10,11,12],[12,14])])
def Qas.B5:List Nat:=[0,0,2,6,14,30,0,0,192,448,960,2046,4094,8191,16383,32767]
theorem Qas.tab5:rtab .any (opsOf Tryd.f82 5)=Qas.T5:=by kernel_rfl
theorem Qas.bits5:waitsOk Qas.T5.2 Qas.B5=true:=by kernel_rfl
set_option maxHeartbeats 8000000 in
set_option maxRecDepth 100000 in
theorem Qas.calls (k:Nat) (A0:Option Addr) (c0:Nat) (l0:List Int) (r1:List Int) (r2:Int) (r3:Int) (w0 w:World) (hB:Below w0.heap.size w0 w) (t:Kd.C (Kd.int .u8) w0 A0 l0.length l0) (s:l0.length≤c0) (h:Qas.f k l0=some (r1,r2,r3)) :
    Calls Tryd.prog 82 #[.slice A0 l0.length c0] w fun e w'=>∃g_:Nat,e=.returned (.pointer (some ⟨g_,0,none⟩))∧IsS126 w0 w' g_ r1 r2 r3∧Below w0.heap.size w0 w'∧Below w.heap.size w w':=by
  (have a2:=Tryd.underlying126);have q:=Am t;have a5:=Am s;clear t s;have HBW:=Am (Below.refl w.heap.size w);have a1:=Am hB.size;have HB:=Am hB;clear hB;(have H:(Qas.l0 k l0 0 l0 0 (IntKind.u64.wrap (13311+(IntKind.u64.wrap ((l0.length:Int))))))=some (r1,r2,r3):=h);clear h;have H':=Am H;clear H;(go_enter Tryd.func82,Tryd.ntmps82);(go_wp2_with(first|(refine Y4 11 #[.slice A0 l0.length c0,.int .i64 0,.int .u64 (IntKind.u64.wrap (13311+(IntKind.u64.wrap ((l0.length:Int)))))] 126 ?_;intro c hg w2 hbox hb;replace HB:=Zs hb;have b:=Am (hbox);have i:=Am ((by rw[hg];exact(below_size (by repeat(first|(with_reducible first|exact HBW.out|apply below_alloc|apply pw_below_drewN|apply below_drew1)|exact HBW.out))):w.heap.size≤c));have p:=Am ((Nat.le_trans a1.out (by rw[hg];exact(below_size (by repeat(first|(with_reducible first|exact HBW.out|apply below_alloc|apply pw_below_drewN|apply below_drew1)|exact HBW.out))):w.heap.size≤c):w0.heap.size≤c));replace HBW:=Am (below_step HBW.out hb);clear hb hbox hg)));(go_loopg[4] k (fun kq v4 w'=>∃(d:Int) (a:Int),v4=.int .i64 d∧Aside0 (Qas.l0 kq l0 d l0 0 a=some (r1,r2,r3))∧Aside0 (kq≤k)∧Aside0 (w'.heap[c]? =some (.cells #[(.slice A0 l0.length c0),.int .i64 0,.int .u64 a] 126 (0,0)))∧Aside0 (Below w0.heap.size w0 w')∧Aside0 (Below w.heap.size w w')));(case atStart=>exact⟨(0),(IntKind.u64.wrap (13311+(IntKind.u64.wrap ((l0.length:Int))))),Yk,H',⟨Nat.le_refl _⟩,⟨Ye b⟩,⟨Ya⟩,⟨by repeat(first|(with_reducible first|exact HBW.out|apply below_alloc|apply pw_below_drewN|apply below_drew1|refine below_set ?_ i.out)|exact HBW.out)⟩⟩)
  case round=>
    (clear H');(obtain⟨d,a,rfl,HA,r,b,HB,HBW⟩:=hrel)
    cases gk with
    |zero=>exact absurd HA.out (by simp[Qas.l0])
    |succ k1=>
      (have H:=HA.out);clear HA;simp only[Qas.l0]at H;replace H:=Yp H;(obtain⟨c3,H⟩|⟨c3,H⟩:=H);(· (have y:=decide_eq_true c3);clear c3;replace H:=Yp H;(obtain⟨c4,H⟩|⟨c4,H⟩:=H);(· (have z:=decide_eq_true c4);clear c4;replace H:=Dn H;obtain⟨a3,H⟩:=H;have H':=Am H;clear H;(try go_wp2);have v:=Am (blk_drew b.out);have x:=Am (below_drew1 HB.out);clear b;clear HB;have b:=v;have HB:=x;replace HBW:=Am (below_drew1 HBW.out);clear v x;have m:0≤(d:Int):=Ym;have o:d<(l0.length:Int):=Ym;obtain⟨l,a0,g⟩:=Kd.at_int q.out d m o;have j:=g;cases a0;replace g:=pw_cell_below HB.out g;replace m:=eq_true m;replace o:=eq_true o;(refine start_ (n:=16) (S:=fun w'=>w'.cell? ⟨c,0,none⟩=some (.slice (some l) l0.length c0)∧w'.cell? ⟨c,1,none⟩=some (.int .i64 0)∧w'.cell? ⟨c,2,none⟩=some (.int .u64 a)∧w'.cell? (l.add (d).toNat)=some (.int .u8 (rd l0 d))) (ds:=[15]) #[false,false,false,false,false,false,false,false,false,false,false,false,false,false,false,false] (by kernel_rfl) rfl rfl ⟨(blk_cell b.out 0).trans rfl,(blk_cell b.out 1).trans rfl,(blk_cell b.out 2).trans rfl,((HB.out.cell (World.block_lt_of_cell? _ _ j)).trans j)⟩ (fun hHeld=>?_);refine with_tabW Qas.tab5 Qas.bits5 (fun HT_ HW_=>?_));(generalize wr.drew=w6 at b HB HBW g hHeld ⊢);(refine Y6 0 (some 22) HT_ ?_);(refine Y6 1 (some 23) HT_ ?_);(refine Y6 2 (some 24) HT_ ?_);(refine Y6 3 (some 25) HT_ ?_);(refine Y6 6 (some 28) HT_ ?_);(refine Y6 7 (some 29) HT_ ?_);(refine Y6 8 (some 30) HT_ ?_);(refine Y7 4 (some 26) HT_ HW_ hHeld ?_);(refine Y6 5 (some 27) HT_ ?_);(refine Y7 9 (some 31) HT_ HW_ hHeld ?_);(refine Y6 10 (some 32) HT_ ?_);(refine Y6 11 (some 33) HT_ ?_);(refine Y6 12 (some 34) HT_ ?_);(refine Y6 13 (some 35) HT_ ?_);(refine Y6 14 (some 36) HT_ ?_);(refine Y9 15 none HT_ (fun K hK=>?_));have a6:w6.cell? ⟨c,2,none⟩=some (.int .u64 a):=(blk_cell b.out 2).trans rfl;have a4:=blk_frozen b.out 2;(refine skip_ (w1:=?_) (by rfl) rfl ?_ ?_);rotate_left;(· go_simp;rfl);(refine hK.out _ _ ?_);clear hK K;(refine done_ (done_of HT_.out (by kernel_rfl)) ?_);(try go_wp2);(go_roundg k1);(case measure=>have:=r.out;omega);(case rel=>exact⟨(wrap64 (d+1)),(IntKind.u64.wrap ((IntKind.u64.wrap ((IntKind.u64.wrap (a*1099511628211))+(IntKind.u64.wrap (rd l0 d))))+157)),Yk,H',⟨by have:=r.out;omega⟩,⟨by refine Yput #[.slice (some l) l0.length c0,.int .i64 0,.int .u64 a] 2 ?_;exact Ye b⟩,⟨Ya⟩,⟨by repeat(first|(with_reducible first|exact HBW.out|apply below_alloc|apply pw_below_drewN|apply below_drew1|refine below_set ?_ i.out)|exact HBW.out)⟩⟩));(· (have z:=decide_eq_false c4);clear c4;simp only[Option.some.injEq,Prod.mk.injEq]at H;obtain⟨rfl,rfl,rfl⟩:=H;go_wp2;go_ret;(exact⟨_,rfl,(show IsS126 w0 _ c l0 0 a from⟨_,_,Ye b,p.out,q.out⟩),Ya,by repeat(first|(with_reducible first|exact HBW.out|apply below_alloc|apply pw_below_drewN|apply below_drew1|refine below_set ?_ i.out)|exact HBW.out)⟩)))
      · have y:=decide_eq_false c3
        clear c3;simp only[Option.some.injEq,Prod.mk.injEq]at H;obtain⟨rfl,rfl,rfl⟩:=H;go_wp2;go_ret;(exact⟨_,rfl,(show IsS126 w0 _ c l0 0 a from⟨_,_,Ye b,p.out,q.out⟩),Ya,by repeat(first|(with_reducible first|exact HBW.out|apply below_alloc|apply pw_below_drewN|apply below_drew1|refine below_set ?_ i.out)|exact HBW.out)⟩)
def Qab.f (c:List Int) (a:Int) (b:Int) (a1:Int):Option (Int × Int × Int):=if a1<1 then(some (0,a,b))else(if a<(c.length:Int)then(if 0≤a then(if a1=0 then(none)else(some (Int.tmod (wrap64 ((wrap64 (Go.bits .and .u64 ((IntKind.u64.wrap ((IntKind.u64.wrap (b*6364136223846793005))+1442695040888963407))/8589934592) 16777215))+(wrap64 (rd c a)))) a1,wrap64 (a+1),IntKind.u64.wrap ((IntKind.u64.wrap (b*6364136223846793005))+1442695040888963407))))else(none))else(if a1=0 then(none)else(some (Int.tmod (wrap64 (Go.bits .and .u64 ((IntKind.u64.wrap ((IntKind.u64.wrap (b*6364136223846793005))+1442695040888963407))/8589934592) 16777215)) a1,a,IntKind.u64.wrap ((IntKind.u64.wrap (b*6364136223846793005))+1442695040888963407)))))
set_option maxHeartbeats 8000000 in
set_option maxRecDepth 100000 in
theorem Qab.calls (g:Nat) (k:List Int) (b:Int) (c:Int) (a1:Int) (r1:Int) (r2:Int) (r3:Int) (w0 w:World) (hI:IsS126 w0 w g k b c) (hB:Below w0.heap.size w0 w) (h:Qab.f k b c a1=some (r1,r2,r3)) :
    Calls Tryd.prog 92 #[.pointer (some ⟨g,0,none⟩),.int .i64 a1] w fun e w'=>e=.returned (.int .i64 r1)∧IsS126 w0 w' g k r2 r3∧Below w0.heap.size w0 w'∧KeepBut w w' g none:=by
  (have n:=Am hI);have HK:=Am (KeepBut.refl w g none);have HL:=Am hB.size;clear hI;have c0:=Am hB.size;have HB:=Am hB;clear hB;(have H:(if a1<1 then(some (0,b,c))else(if b<(k.length:Int)then(if 0≤b then(if a1=0 then(none)else(some (Int.tmod (wrap64 ((wrap64 (Go.bits .and .u64 ((IntKind.u64.wrap ((IntKind.u64.wrap (c*6364136223846793005))+1442695040888963407))/8589934592) 16777215))+(wrap64 (rd k b)))) a1,wrap64 (b+1),IntKind.u64.wrap ((IntKind.u64.wrap (c*6364136223846793005))+1442695040888963407))))else(none))else(if a1=0 then(none)else(some (Int.tmod (wrap64 (Go.bits .and .u64 ((IntKind.u64.wrap ((IntKind.u64.wrap (c*6364136223846793005))+1442695040888963407))/8589934592) 16777215)) a1,b,IntKind.u64.wrap ((IntKind.u64.wrap (c*6364136223846793005))+1442695040888963407))))))=some (r1,r2,r3):=h);clear h;replace H:=Yp H;(obtain⟨c3,H⟩|⟨c3,H⟩:=H);(· (have r:=decide_eq_true c3);clear c3;simp only[Option.some.injEq,Prod.mk.injEq]at H;obtain⟨rfl,rfl,rfl⟩:=H;(go_enter Tryd.func92,Tryd.ntmps92);go_wp2;(repeat(go_quiet(fail);try go_wp2));go_ret;(exact⟨Yl,Yx126,Yz126,Yh HK⟩))
  · have r:=decide_eq_false c3
    clear c3;replace H:=Yp H;(obtain⟨c4,H⟩|⟨c4,H⟩:=H);(· (have s:=decide_eq_true c4);clear c4;replace H:=Dn H;obtain⟨b5,H⟩:=H;replace H:=Yo H;obtain⟨c6,H⟩:=H;have b6:(a1==0)=false:=beq_eq_false_iff_ne.mpr c6;have b7:(a1 !=0)=true:=bne_iff_ne.mpr c6;simp only[Option.some.injEq,Prod.mk.injEq]at H;obtain⟨rfl,rfl,rfl⟩:=H;obtain⟨z,a3,i,v,o⟩:=n.out;have a5:=cellS126_0 i;have a6:=cellS126_1 i;have a7:=cellS126_2 i;have b1:=blk_frozen i 1;have b2:=blk_frozen i 2;clear i v;have l:0≤(b:Int):=Ym;have m:b<(k.length:Int):=Ym;obtain⟨q,t,a⟩:=Kd.at_int o b l m;cases t;(have d:q.block≠g:=Nat.ne_of_lt (Nat.lt_of_lt_of_le (by have:=World.block_lt_of_cell? _ _ a;first|rwa [add_block]at this|exact this) (IsS126.ge n.out)));replace a:=pw_cell_below HB.out a;(replace a:=(cell_far (p:=⟨g,2,none⟩) (by first|(rw[add_block];exact d)|(show(Addr.add _ _).block≠_;rw[add_block];exact d)|exact d) (.int .u64 (IntKind.u64.wrap ((IntKind.u64.wrap (c*6364136223846793005))+1442695040888963407)))).trans a);(try have y:=fun(n_:Nat)=>(show(((w.drewN n_).setCell ⟨g,2,none⟩ (.int .u64 (IntKind.u64.wrap ((IntKind.u64.wrap (c*6364136223846793005))+1442695040888963407))))).cell? _=some _ from a));clear d;replace l:=eq_true l;replace m:=eq_true m;(go_enter Tryd.func92,Tryd.ntmps92);go_wp2;(repeat(go_quiet(fail);try go_wp2));go_ret;(exact⟨Yl,Yx126,Yz126,Yh HK⟩))
    · have s:=decide_eq_false c4
      clear c4;replace H:=Yo H;obtain⟨c8,H⟩:=H;have b8:(a1==0)=false:=beq_eq_false_iff_ne.mpr c8;have b9:(a1 !=0)=true:=bne_iff_ne.mpr c8;simp only[Option.some.injEq,Prod.mk.injEq]at H;obtain⟨rfl,rfl,rfl⟩:=H;obtain⟨a0,a4,j,x,a2⟩:=n.out;have a8:=cellS126_0 j;have a9:=cellS126_1 j;have b0:=cellS126_2 j;have b3:=blk_frozen j 1;have b4:=blk_frozen j 2;clear j x;(go_enter Tryd.func92,Tryd.ntmps92);go_wp2;(repeat(go_quiet(fail);try go_wp2));go_ret;(exact⟨Yl,Yx126,Yz126,Yh HK⟩)
def Qav.f (b:List Int) (c:Int) (d:Int) (l1:List Int):Option (Int × Int × Int):=(Qab.f b c d (l1.length:Int)).bind fun a=>(if 0≤a.1 then(if a.1<(l1.length:Int)then(some (rd l1 a.1,a.2.1,a.2.2))else(none))else(none))
set_option maxHeartbeats 8000000 in
set_option maxRecDepth 100000 in
theorem Qav.calls (g:Nat) (b:List Int) (d:Int) (i:Int) (A1:Option Addr) (c1:Nat) (l1:List Int) (r1:Int) (r2:Int) (r3:Int) (w0 w:World) (hI:IsS126 w0 w g b d i) (hB:Below w0.heap.size w0 w) (p:Kd.C (Kd.int .i64) w A1 l1.length l1) (o:l1.length≤c1) (m:∀ad,A1=some ad→0<l1.length→ad.block≠g) (h:Qav.f b d i l1=some (r1,r2,r3)) :
    Calls Tryd.prog 93 #[.pointer (some ⟨g,0,none⟩),.slice A1 l1.length c1] w fun e w'=>e=.returned (.int .i64 r1)∧IsS126 w0 w' g b r2 r3∧Below w0.heap.size w0 w'∧KeepBut w w' g none:=by
  (have v:=Am p);have z:=Am o;clear p o;have t:=Am hI;have HK:=Am (KeepBut.refl w g none);have HL:=Am hB.size;clear hI;have a0:=Am hB.size;have HB:=Am hB;clear hB;(have H:((Qab.f b d i (l1.length:Int)).bind fun a=>(if 0≤a.1 then(if a.1<(l1.length:Int)then(some (rd l1 a.1,a.2.1,a.2.2))else(none))else(none)))=some (r1,r2,r3):=h);clear h;replace H:=Yq H;obtain⟨⟨j,r,s⟩,A3,H⟩:=H;(try dsimp only at H);replace H:=Dn2 H;obtain⟨x,y,H⟩:=H;simp only[Option.some.injEq,Prod.mk.injEq]at H;obtain⟨rfl,rfl,rfl⟩:=H;(go_enter Tryd.func93,Tryd.ntmps93);(go_wp2_with(first|(refine Y5 92 (some 9) Tryd.func92 #[.pointer (some ⟨g,0,none⟩),.int .i64 (l1.length:Int)] ?_;(with_reducible refine(Qab.calls g b d i (l1.length:Int) j r s w0 _ ?side1 ?side2 A3.out).mono ?_);(case side1=>exact Yx126);(case side2=>exact Yz126);rintro e w6 ⟨rfl,hi,hb,hk⟩;refine⟨_,rfl,?_⟩;replace HK:=Am (KeepBut.trans (Yh HK) hk (.inl rfl));replace HB:=Am (hb);replace t:=Am (hi);clear hb hk hi;have k:0≤(j:Int):=Ym;have l:j<(l1.length:Int):=Ym;obtain⟨n,q,c⟩:=Kd.at_int v.out j k l;cases q;replace c:=keep_cell HK.out c (by first|(rw[add_block];exact m _ rfl (by omega))|exact m _ rfl (by omega)|exact m n rfl (by omega));replace k:=eq_true k;replace l:=eq_true l)));go_ret;(exact⟨Yl,Yx126,Yz126,Yh HK⟩)
def Qcg.f (l0:List Int):Option (List Int):=if l0.length<17592186044416 then some l0 else none
set_option maxHeartbeats 8000000 in
set_option maxRecDepth 100000 in
theorem Qcg.calls (A0:Option Addr) (c0:Nat) (l0:List Int) (r:List Int) (w:World) (k:Kd.C (Kd.int .i64) w A0 l0.length l0) (l:l0.length≤c0) (h:Qcg.f l0=some r) :
    Calls Tryd.prog 112 #[.slice A0 l0.length c0] w fun e w'=>∃o:Value,e=.returned (o)∧Kd.R (Kd.int .i64) 2 w' w.heap.size (fun _=>True) o r∧Below w.heap.size w w':=by
  have z:∀(w:World) (a:Option Addr) (n c n' c':Nat),(binOp .eql 24 (.slice a n c) (.slice none n' c')).run Tryd.prog w=.ok (.bool a.isNone) w:=fun w a n c n' c'=>Lib.run_eql_slice_nil w _ _ a n c n' c' Tryd.underlying24
  have q:=Am k
  have v:=Am l
  unfold Qcg.f at h
  split at h
  case isFalse=>cases h
  case isTrue hlt=>
    obtain rfl:=Option.some.inj h
    cases A0 with
    |none=>
      have e0:l0=[]:=by
        cases l0 with
        |nil=>rfl
        |cons x t=>obtain⟨ad,e,_⟩:=Kd.at_int k 0 (by omega) (by simp);cases e
      have E0:=Am e0
      clear k l h hlt e0
      go_enter Tryd.func112,Tryd.ntmps112
      go_wp2
      go_ret
      refine⟨_,rfl,?_,Below.refl _ _⟩
      rw[E0.out]
      exact Kd.R_nil _ _ _ _ _
    |some ad=>
      have LM:=Am hlt
      clear k l h hlt
      have HB:=Am (Below.refl w.heap.size w)
      obtain⟨y,hy⟩:∃y_:List Int,y_=(([]:List Int)):=⟨_,rfl⟩
      have Ny:=Am hy
      clear hy
      go_enter Tryd.func112,Tryd.ntmps112
      go_wp2_with(first|((with_reducible refine gate_dst (N:=5) rfl ?_);refine Kd.R_lit (Kd.int .i64) _ 2 ?hg (N:=5) ?hd (xs:=([]:List Int)) (inner:=[]) (ok:=fun _=>True) (okp:=fun _=>True) ?hr ?hp (fun _ hk=>hk) trivial (Below.refl _ _) (Nat.le_refl _) (by simp) ?_;(case hd=>rfl);(case hg=>rfl);(case hr=>first|(go_simp;done)|(go_simp;rfl));(case hp=>exact(Reps.none _ _));intro p w3 d hb hg_ hnew_;clear hg_ hnew_;(first|rw[← Ny.out]at d|(simp only[Int.reduceToNat]at d;rw[← Ny.out]at d));have g:=Am (Kd.R_lower d (below_size (by repeat(first|(with_reducible first|exact HB.out|apply below_alloc|apply pw_below_drewN|apply below_drew1)|exact HB.out))));have i:=Am (below_step (by repeat(first|(with_reducible first|exact HB.out|apply below_alloc|apply pw_below_drewN|apply below_drew1)|exact HB.out)) hb);clear HB;have j:=g;have HB:=i;clear g i;clear hb d)|((with_reducible refine gate_builtin (b:=.append) (xs:=#[.tmp 5,.tmp 6]) rfl ?_);at_builtin;refine Kd.R_append_rows (Kd.int .i64) (w0:=w) w.heap.size rfl (.tmp 5) (.tmp 6) 24 2 (.int .i64 0) 8 rfl Tryd.underlying24 info2 rfl (by decide) (by omega) p y l0 _ _ _ (fun _=>True) (fun _=>False) rfl rfl ?aO ?aR (fun _ _ h=>h) (fun _ h=>h.elim) ?aF ?aB ?aS ?aL ?_;(case aR=>repeat(first|exact(Kd.C_below q.out HB.out)|(with_reducible refine Kd.C_alloc ?_ _)|(with_reducible refine Kd.C_drewN ?_ _)|(with_reducible refine Kd.C_drew ?_)));(case aB=>exact(by repeat(first|(with_reducible first|exact HB.out|apply below_alloc|apply pw_below_drewN|apply below_drew1)|exact HB.out)));(case aF=>exact(fun _ _=>trivial));(case aO=>exact(by(with_reducible repeat(first|apply Kd.R_alloc|apply Kd.R_drewN|apply Kd.R_drew));exact j.out));(case aS=>exact(below_size (by repeat(first|(with_reducible first|exact HB.out|apply below_alloc|apply pw_below_drewN|apply below_drew1)|exact HB.out))));(case aL=>have:=LM.out;have:=Ny.out;subst this;simp;omega);intro s w5 ho hb hg hat;have g:=Am (hb);have i:=Am (ho);clear HB;clear j;have HB:=g;have m:=i;clear g i;clear ho hb hg hat))
      go_ret
      refine⟨_,rfl,?_,HB.out⟩
      have:=m.out
      rw[Ny.out,List.nil_append]at this
      exact this
def Qam.f (a0:Int) (a1:Int) (a2:Int):Option (Bool):=if a0≥a1 then(some (decide (a0≤a2)))else(some false)
set_option maxHeartbeats 8000000 in
set_option maxRecDepth 100000 in
theorem Qam.calls (a0:Int) (a1:Int) (a2:Int) (r:Bool) (w:World) (h:Qam.f a0 a1 a2=some r) :
    Calls Tryd.prog 98 #[.int .i64 a0,.int .i64 a1,.int .i64 a2] w fun e w'=>e=.returned (.bool r)∧Drawn0 w w':=by
  (have H:(if a0≥a1 then(some (decide (a0≤a2)))else(some false))=some r:=h);clear h;replace H:=Yp H;(obtain⟨c4,H⟩|⟨c4,H⟩:=H);(· (have a:=decide_eq_true c4);clear c4;obtain rfl:=Option.some.inj H;(go_enter Tryd.func98,Tryd.ntmps98);go_wp2;go_ret;(exact⟨by first|rfl|(simp;done)|(simp[*];done),by repeat(first|exact Drawn0.refl _|apply Drawn0.step)⟩))
  · have a:=decide_eq_false c4
    clear c4;obtain rfl:=Option.some.inj H;(go_enter Tryd.func98,Tryd.ntmps98);go_wp2;go_ret;(exact⟨by first|rfl|(simp;done)|(simp[*];done),by repeat(first|exact Drawn0.refl _|apply Drawn0.step)⟩)
mutual
def Qbl.j0:Nat→Int→Int→Int→Option (Int)
  |0,_,_,_=>none
  |k+1,x0,x1,x7=>Qbl.l0 k x0 x1 x7
def Qbl.l0:Nat→Int→Int→Int→Option (Int)
  |0,_,_,_=>none
  |k+1,x0,x1,x7=>if x1>1 then(Qbl.l0 k x0 (wrap64 (x1-1)) (mn (wrap64 (x7*x0)) 63))else(some x7)
end
def Qbl.f (k:Nat) (a0:Int) (a1:Int) (a2:Bool):Option (Int):=if a2=true then(Qbl.j0 k a0 a1 (wrap64 (a0+1)))else(Qbl.j0 k a0 a1 a0)
set_option maxHeartbeats 8000000 in
set_option maxRecDepth 100000 in
theorem Qbl.calls (k:Nat) (a0:Int) (a1:Int) (a2:Bool) (r:Int) (w:World) (h:Qbl.f k a0 a1 a2=some r) :
    Calls Tryd.prog 151 #[.int .i64 a0,.int .i64 a1,.bool a2] w fun e w'=>e=.returned (.int .i64 r)∧Below w.heap.size w w':=by
  (have HB:=Am (Below.refl w.heap.size w));(have H:(if a2=true then(Qbl.j0 k a0 a1 (wrap64 (a0+1)))else(Qbl.j0 k a0 a1 a0))=some r:=h);clear h;have g:=Am H;clear H;(go_enter Tryd.func151,Tryd.ntmps151);(go_upto_if 9 with(fail));(go_cut[7] (fun v7 wc=>∃(kq:Nat) (c:Int),v7=.int .i64 c∧Aside0 (Qbl.j0 kq a0 a1 c=some r)∧Aside0 (kq≤k)∧Aside0 (Below w.heap.size w wc)))
  case first=>
    (have H:=g.out);clear g;(by_cases c5:a2=true);(· subst c5;replace H:=Ybt H;have H':=Am H;clear H;go_wp2;(go_meet);(case rel=>exact⟨_,(wrap64 (a0+1)),Yk,H',⟨by first|omega|exact Nat.le_refl _⟩,⟨Ya⟩⟩));(· (replace c5:=Bool.eq_false_iff.mpr c5);subst c5;replace H:=Ybf H;have H':=Am H;clear H;go_wp2;(go_meet);(case rel=>exact⟨_,(a0),Yk,H',⟨by first|omega|exact Nat.le_refl _⟩,⟨Ya⟩⟩))
  case rest=>
    clear g;(obtain⟨kq,c,rfl,HA,i,HB⟩:=hcut)
    cases kq with
    |zero=>exact absurd HA.out (by simp[Qbl.j0])
    |succ m=>
      (have H:=HA.out);clear HA;simp only[Qbl.j0]at H;have H':=Am H;clear H;go_wp2;(go_loopg[1,7] m (fun kq v1 v7 w'=>∃(b:Int) (a:Int),v1=.int .i64 b∧v7=.int .i64 a∧Aside0 (Qbl.l0 kq a0 b a=some r)∧Aside0 (kq≤m)∧Aside0 (Below w.heap.size w w')));(case atStart=>exact⟨(a1),(c),Yk,Yk,H',⟨Nat.le_refl _⟩,⟨Ya⟩⟩)
      case round=>
        (clear H');(obtain⟨b,a,rfl,rfl,HA,j,HB⟩:=hrel)
        cases gk with
        |zero=>exact absurd HA.out (by simp[Qbl.l0])
        |succ k2=>
          (have H:=HA.out);clear HA;simp only[Qbl.l0]at H;replace H:=Yp H;(obtain⟨c6,H⟩|⟨c6,H⟩:=H);(· (have n:=decide_eq_true c6);clear c6;(obtain⟨l,d⟩:=Yt (mn (wrap64 (a*a0)) 63));(try simp only[d]at H);(have o:(if 63<(wrap64 (a*a0))then 63 else(wrap64 (a*a0)))=l:=d);have H':=Am H;clear H;go_wp2;(go_roundg k2);(case measure=>have:=i.out;have:=j.out;omega);(case rel=>exact⟨(wrap64 (b-1)),(l),Yk,(by first|rfl|(simp;done)|(simp only[← d]<;>(first|rfl|simp))|(simp[*];done)),H',⟨by have:=i.out;have:=j.out;omega⟩,⟨Ya⟩⟩))
          · have n:=decide_eq_false c6
            clear c6;obtain rfl:=Option.some.inj H;go_wp2;go_ret;(exact⟨Yl,Ya⟩)
def Qcc.j0:Nat→Int→Int→Bool→Option (Int)
  |0,_,_,_=>none
  |k+1,x0,x1,x5=>if x5=true then(some 2)else((Qbl.f k x0 x1 true).bind fun a=>(if a>62 then(some 3)else(some 0)))
def Qcc.f (k:Nat) (a0:Int) (a1:Int):Option (Int):=(Qam.f a0 1 61).bind fun a=>(if a=true then((Qam.f a1 1 10).bind fun b=>(Qcc.j0 k a0 a1 (!b)))else(Qcc.j0 k a0 a1 true))
set_option maxHeartbeats 8000000 in
set_option maxRecDepth 100000 in
theorem Qcc.calls (k:Nat) (a0:Int) (a1:Int) (r:Int) (w:World) (h:Qcc.f k a0 a1=some r) :
    Calls Tryd.prog 144 #[.int .i64 a0,.int .i64 a1] w fun e w'=>e=.returned (.int .i64 r)∧Below w.heap.size w w':=by
  (have HB:=Am (Below.refl w.heap.size w));(have H:((Qam.f a0 1 61).bind fun c=>(if c=true then((Qam.f a1 1 10).bind fun a=>(Qcc.j0 k a0 a1 (!a)))else(Qcc.j0 k a0 a1 true)))=some r:=h);clear h;have d:=Am H;clear H;(go_enter Tryd.func144,Tryd.ntmps144);(go_upto_region 1 with(fail));(go_cut[5] (fun v5 wc=>∃(kq:Nat) (b:Bool),v5=.bool b∧Aside0 (Qcc.j0 kq a0 a1 b=some r)∧Aside0 (kq≤k)∧Aside0 (Below w.heap.size w wc)))
  case first=>
    (have H:=d.out);clear d;replace H:=Yq H;obtain⟨c,A4,H⟩:=H;(by_cases c5:c=true);(· subst c5;replace H:=Ybt H;replace H:=Yq H;obtain⟨a,A6,H⟩:=H;have H':=Am H;clear H;(go_wp2_with(first|(refine Y5 98 (some 7) Tryd.func98 #[.int .i64 a0,.int .i64 1,.int .i64 61] ?_;(with_reducible refine(Qam.calls a0 1 61 true _ A4.out).mono ?_);rintro e w' ⟨rfl,⟨nd,rfl⟩⟩;refine⟨_,rfl,?_⟩)|(go_at_call 98;(with_reducible refine(Qam.calls a1 1 10 a _ A6.out).mono ?_);rintro e w' ⟨rfl,⟨nd,rfl⟩⟩)));(go_meet);(case rel=>exact⟨_,(!a),Yk,H',⟨by first|omega|exact Nat.le_refl _⟩,⟨Ya⟩⟩));(· (replace c5:=Bool.eq_false_iff.mpr c5);subst c5;replace H:=Ybf H;have H':=Am H;clear H;(go_wp2_with(first|(refine Y5 98 (some 7) Tryd.func98 #[.int .i64 a0,.int .i64 1,.int .i64 61] ?_;(with_reducible refine(Qam.calls a0 1 61 false _ A4.out).mono ?_);rintro e w' ⟨rfl,⟨nd,rfl⟩⟩;refine⟨_,rfl,?_⟩)));(go_meet);(case rel=>exact⟨_,(true),Yk,H',⟨by first|omega|exact Nat.le_refl _⟩,⟨Ya⟩⟩))
  case rest=>
    clear d;(obtain⟨kq,b,rfl,HA,l,HB⟩:=hcut)
    cases kq with
    |zero=>exact absurd HA.out (by simp[Qcc.j0])
    |succ i=>
      (have H:=HA.out);clear HA;simp only[Qcc.j0]at H;(by_cases c7:b=true);(· subst c7;replace H:=Ybt H;obtain rfl:=Option.some.inj H;go_wp2;go_ret;(exact⟨Yl,Ya⟩))
      · replace c7:=Bool.eq_false_iff.mpr c7
        subst c7;replace H:=Ybf H;replace H:=Yq H;obtain⟨g,A8,H⟩:=H;replace H:=Yp H;(obtain⟨c9,H⟩|⟨c9,H⟩:=H);(· (have j:=decide_eq_true c9);clear c9;obtain rfl:=Option.some.inj H;(go_wp2_with(first|(refine Y5 151 (some 17) Tryd.func151 #[.int .i64 a0,.int .i64 a1,.bool true] ?_;(with_reducible refine(Qbl.calls i a0 a1 true g _ A8.out).mono ?_);rintro e m ⟨rfl,hb⟩;refine⟨_,rfl,?_⟩;replace HB:=Zs hb;clear hb)));go_ret;(exact⟨Yl,Ya⟩))
        · have j:=decide_eq_false c9
          clear c9;obtain rfl:=Option.some.inj H;(go_wp2_with(first|(refine Y5 151 (some 17) Tryd.func151 #[.int .i64 a0,.int .i64 a1,.bool true] ?_;(with_reducible refine(Qbl.calls i a0 a1 true g _ A8.out).mono ?_);rintro e n ⟨rfl,hb⟩;refine⟨_,rfl,?_⟩;replace HB:=Zs hb;clear hb)));go_ret;(exact⟨Yl,Ya⟩)
def Qbx.l0:Nat→List Int→List Int→Int→Option (Bool)
  |0,_,_,_=>none
  |k+1,x0,x1,x5=>if x5<(x0.length:Int)then(if 0≤x5 then(if 0≤(wrap64 (x5-1))then(if(wrap64 (x5-1))<(x1.length:Int)then(if(rd x0 x5)=(rd x1 (wrap64 (x5-1)))then(Qbx.l0 k x0 x1 (wrap64 (x5+1)))else(some false))else(none))else(none))else(none))else(some true)
def Qbx.f (k:Nat) (l0:List Int) (l1:List Int):Option (Bool):=Qbx.l0 k l0 l1 1
set_option maxHeartbeats 8000000 in
set_option maxRecDepth 100000 in
theorem Qbx.calls (k:Nat) (A0:Option Addr) (c0:Nat) (l0:List Int) (A1:Option Addr) (c1:Nat) (l1:List Int) (r:Bool) (w:World) (z:Kd.C (Kd.int .i64) w A0 l0.length l0) (x:l0.length≤c0) (a0:Kd.C (Kd.int .i64) w A1 l1.length l1) (y:l1.length≤c1) (h:Qbx.f k l0 l1=some r) :
    Calls Tryd.prog 191 #[.slice A0 l0.length c0,.slice A1 l1.length c1] w fun e w'=>e=.returned (.bool r)∧Drawn0 w w':=by
  (have t:=Am z);have a8:=Am x;clear z x;have v:=Am a0;have a9:=Am y;clear a0 y;have H:(Qbx.l0 k l0 l1 1)=some r:=h;clear h;have H':=Am H;clear H;(go_enter Tryd.func191,Tryd.ntmps191);go_wp2;(repeat(go_quiet(fail);try go_wp2));(go_loopg[5] k (fun kq v5 w'=>∃(a:Int),v5=.int .i64 a∧Aside0 (Qbx.l0 kq l0 l1 a=some r)∧Aside0 (kq≤k)∧Drawn0 w w'));(case atStart=>exact⟨(1),Yk,H',⟨Nat.le_refl _⟩,by repeat(first|exact Drawn0.refl _|apply Drawn0.step)⟩)
  case round=>
    (clear H');(obtain⟨a,rfl,HA,s,⟨m1,rfl⟩⟩:=hrel)
    cases gk with
    |zero=>exact absurd HA.out (by simp[Qbx.l0])
    |succ k1=>
      (have H:=HA.out);clear HA;simp only[Qbx.l0]at H;replace H:=Yp H;(obtain⟨c3,H⟩|⟨c3,H⟩:=H);(· (have a1:=decide_eq_true c3);clear c3;replace H:=Dn H;obtain⟨a5,H⟩:=H;obtain⟨i,m⟩:=Yt (wrap64 (a-1));(try simp only[m]at H);have a4:(IntKind.i64.wrap (a-1))=i:=(i64_w _).trans m;replace H:=Dn2 H;obtain⟨a6,a7,H⟩:=H;replace H:=Yp H;(obtain⟨c8,H⟩|⟨c8,H⟩:=H);(· (obtain⟨a2,a3⟩:=Yv c8);clear c8;have H':=Am H;clear H;have b:0≤(a:Int):=Ym;have d:a<(l0.length:Int):=Ym;obtain⟨p,j,n⟩:=Kd.at_int t.out a b d;cases j;replace b:=eq_true b;replace d:=eq_true d;have c:0≤((i):Int):=Ym;have g:(i)<(l1.length:Int):=Ym;obtain⟨q,l,o⟩:=Kd.at_int v.out (i) c g;cases l;replace c:=eq_true c;replace g:=eq_true g;go_wp2;(repeat(go_quiet(fail);try go_wp2));(go_roundg k1);(case measure=>have:=s.out;omega);(case rel=>exact⟨(wrap64 (a+1)),Yk,H',⟨by have:=s.out;omega⟩,by repeat(first|exact Drawn0.refl _|apply Drawn0.step)⟩));(· (obtain⟨a2,a3⟩:=Yw c8);obtain rfl:=Option.some.inj H;have b:0≤(a:Int):=Ym;have d:a<(l0.length:Int):=Ym;obtain⟨p,j,n⟩:=Kd.at_int t.out a b d;cases j;replace b:=eq_true b;replace d:=eq_true d;have c:0≤((i):Int):=Ym;have g:(i)<(l1.length:Int):=Ym;obtain⟨q,l,o⟩:=Kd.at_int v.out (i) c g;cases l;replace c:=eq_true c;replace g:=eq_true g;go_wp2;(repeat(go_quiet(fail);try go_wp2));go_ret;(exact⟨by first|rfl|(simp;done)|(simp only[← m]<;>(first|rfl|simp))|(simp[*];done),by repeat(first|exact Drawn0.refl _|apply Drawn0.step)⟩)))
      · have a1:=decide_eq_false c3
        clear c3;obtain rfl:=Option.some.inj H;go_wp2;(repeat(go_quiet(fail);try go_wp2));go_ret;(exact⟨by first|rfl|(simp;done)|(simp[*];done),by repeat(first|exact Drawn0.refl _|apply Drawn0.step)⟩)
end Go.Proofs.YtmofdldplbplbaaDoor.P
