-- Printed by a program of this workplace (wip/xp/xp.py), joined by wip/bin/mergeP.
import Derived.Test.YtmofdldplbplbaaGreatDoorProg
import Derived.Below
import Derived.Deep.Draws
import Derived.Deep.AppendLies
import Derived.Maps.AppendAt
import Derived.OwnWalk
import Derived.Laws.BytesArg
import Derived.Laws.MakeOwn
import Derived.Laws.OwnMore
import Derived.Deep.OwnRows
import Derived.Tactics
import Derived.Lib.ConvBytes
import Derived.Laws.Slices
import Derived.WalkKit
import Derived.KernelRfl
import Derived.RowKit3
import Derived.Deep.LoopGhost
import Derived.Deep.QuietTactic
import Derived.BigQuiet
import Derived.WideLaws
import Derived.Deep.DeepCutAuto
import Derived.Deep.CutBlock
import Derived.Deep.RegionHeld3
import Derived.Laws.Rows
import Derived.Lib.AppendStr
import Derived.ArgAppend
import Derived.Laws.IdiomCopy
import Derived.OrdersHeld
import Derived.Laws.BitsLemmas
import Derived.RowKit
import Derived.Lib.TrailingZeros
import Derived.Laws.Bits64b
import Derived.Shelf.Strconv.Itoa4
import Derived.Shelf.Strings.Count
import Derived.Shelf.Strings.OnBuilder
import Derived.Shelf.Strings.Search2
import Derived.Test.YtmofdldplbplbaaGreatDoorWA
import Derived.Test.YtmofdldplbplbaaGreatDoorWBMore
namespace Go.Proofs.YtmofdldplbplbaaGreatDoor.P
open Go.RowKit Go.Proofs.YtmofdldplbplbaaGreatDoorW.PrintWords Go.Proofs.YtmofdldplbplbaaGreatDoorW.PrintLast Go.Proofs.YtmofdldplbplbaaGreatDoorW.PrintMore
attribute [local go_sem] max2_int min2_int max_two min_two max_three min_three max_four min_four
set_option linter.unusedVariables false
set_option linter.unusedSimpArgs false
def errW:Option Int→Value
  |none=>.nilIface
  |some c=>.iface 0 (.int .i64 c)
theorem errW_none:errW none=.nilIface:=rfl
theorem errW_some (c:Int):errW (some c)=.iface 0 (.int .i64 c):=rfl
def TabW (w:World):Prop:=∀j,j<Lib.deBruijn64tab.length→w.cell? ⟨0,j,none⟩=some (.int .u8 (Lib.deBruijn64tab.getD j 0))
theorem TabW.below {w w1:World} (h:TabW w) (hb:Below w.heap.size w w1):TabW w1:=fun j hj=>pw_cell_below hb (h j hj)
theorem q1 {n:Nat} {w w':World} (h:Below n w w':=by repeat(first|(with_reducible first|exact Aside0.out (by assumption)|apply below_alloc|apply pw_below_drewN|apply below_drew1|refine below_set ?_ (Aside0.out (by assumption)))|exact Aside0.out (by assumption))):Below n w w':=h
theorem q2 {α:Type} {d:Kd α} {e base:Nat} {w0 w:World} {ok:Nat→Prop} {v:Value} {xs:List α} (h0:Aside0 (d.R e w0 base ok v xs)) (h:d.R e w base ok v xs:=by(with_reducible repeat(first|apply Kd.R_alloc|apply Kd.R_drewN|apply Kd.R_drew));exact Aside0.out (by assumption)):d.R e w base ok v xs:=h
theorem q3 {α:Type} {d:Kd α} {e base:Nat} {w0 w:World} {ok:Nat→Prop} {v:Value} {xs:List α} (h0:Aside0 (d.S e w0 base ok v xs)) (h:d.S e w base ok v xs:=by(with_reducible repeat(first|apply Kd.S_alloc|apply Kd.S_drewN|apply Kd.S_drew));exact Aside0.out (by assumption)):d.S e w base ok v xs:=h
theorem q4 {w0 w:World} {g:Nat} {o:Obj} (h0:Aside0 (w0.heap[g]? =some o)) (h:w.heap[g]? =some o:=by(with_reducible repeat(first|refine blk_drewN ?_ _|refine blk_drew ?_|refine blk_alloc ?_ _));exact Aside0.out (by assumption)):w.heap[g]? =some o:=h
theorem q5 {p:Prop} (h:p:=by(try simp only[List.map_toArray,List.map_cons,List.map_nil]);first|done|rfl|(simp only[List.length_drop,List.length_take];rfl)):p:=h
theorem q6 {p:Prop} (h:p:=by first|rfl|(simp;done)|(simp[*];done)):p:=h
def AD (w v:World):Prop:=∀P:World→Prop,P w→(∀u o,P u→P (u.alloc o))→(∀u m,P u→P (u.drewN m))→(∀u,P u→P u.drew)→P v
theorem AD.refl (w:World):AD w w:=fun _ h _ _ _=>h
theorem AD.al {w v:World} {o:Obj} (h:AD w v):AD w (v.alloc o):=fun P a b c d=>b _ _ (h P a b c d)
theorem AD.dn {w v:World} {m:Nat} (h:AD w v):AD w (v.drewN m):=fun P a b c d=>c _ _ (h P a b c d)
theorem AD.dr {w v:World} (h:AD w v):AD w v.drew:=fun P a b c d=>d _ (h P a b c d)
theorem Ya {n:Nat} {w w':World} (h:Below n w w':=by repeat(first|(with_reducible first|exact Aside0.out (by assumption)|apply below_alloc|apply pw_below_drewN|apply below_drew1|refine below_set ?_ (Aside0.out (by assumption)))|exact Aside0.out (by assumption))):Below n w w':=h
theorem YbR {α:Type} {d:Kd α} {e base:Nat} {w0 w:World} {ok:Nat→Prop} {v:Value} {xs:List α} (h0:d.R e w0 base ok v xs) (hw:AD w0 w:=by(with_reducible repeat(first|exact AD.refl _|apply AD.al|apply AD.dn|apply AD.dr));all_goals exact AD.refl _):d.R e w base ok v xs:=hw (fun u=>d.R e u base ok v xs) h0 (fun _ o h=>Kd.R_alloc h o) (fun _ m h=>Kd.R_drewN h m) (fun _ h=>Kd.R_drew h)
theorem YcR {α:Type} {d:Kd α} {e base:Nat} {w0 w:World} {ok:Nat→Prop} {v:Value} {xs:List α} (h0:Aside0 (d.R e w0 base ok v xs)) (hw:AD w0 w:=by(with_reducible repeat(first|exact AD.refl _|apply AD.al|apply AD.dn|apply AD.dr));all_goals exact AD.refl _):d.R e w base ok v xs:=YbR h0.out hw
theorem YbS {α:Type} {d:Kd α} {e base:Nat} {w0 w:World} {ok:Nat→Prop} {v:Value} {xs:List α} (h0:d.S e w0 base ok v xs) (hw:AD w0 w:=by(with_reducible repeat(first|exact AD.refl _|apply AD.al|apply AD.dn|apply AD.dr));all_goals exact AD.refl _):d.S e w base ok v xs:=hw (fun u=>d.S e u base ok v xs) h0 (fun _ o h=>Kd.S_alloc h o) (fun _ m h=>Kd.S_drewN h m) (fun _ h=>Kd.S_drew h)
theorem YcS {α:Type} {d:Kd α} {e base:Nat} {w0 w:World} {ok:Nat→Prop} {v:Value} {xs:List α} (h0:Aside0 (d.S e w0 base ok v xs)) (hw:AD w0 w:=by(with_reducible repeat(first|exact AD.refl _|apply AD.al|apply AD.dn|apply AD.dr));all_goals exact AD.refl _):d.S e w base ok v xs:=YbS h0.out hw
theorem Yd {w0 w:World} {g:Nat} {o:Obj} (h0:w0.heap[g]? =some o) (hw:AD w0 w:=by(with_reducible repeat(first|exact AD.refl _|apply AD.al|apply AD.dn|apply AD.dr));all_goals exact AD.refl _):w.heap[g]? =some o:=hw (fun u=>u.heap[g]? =some o) h0 (fun _ o h=>blk_alloc h o) (fun _ m h=>blk_drewN h m) (fun _ h=>blk_drew h)
theorem Ye {w0 w:World} {g:Nat} {o:Obj} (h0:Aside0 (w0.heap[g]? =some o)) (hw:AD w0 w:=by(with_reducible repeat(first|exact AD.refl _|apply AD.al|apply AD.dn|apply AD.dr));all_goals exact AD.refl _):w.heap[g]? =some o:=Yd h0.out hw
theorem Yf {w0 w:World} {g:Nat} {o:Obj} (h0:Aside0 (w0.heap[g]? =some o)) (h:w.heap[g]? =some o:=by(with_reducible repeat(first|refine blk_drewN ?_ _|refine blk_drew ?_|refine blk_alloc ?_ _|refine blk_far ?_ (Aside0.out (by assumption)) _));exact Aside0.out (by assumption)):w.heap[g]? =some o:=h
theorem Yg {α:Type} {d:Kd α} {w0 w:World} {A:Option Addr} {n:Nat} {xs:List α} (h0:d.C w0 A n xs) (hw:AD w0 w:=by(with_reducible repeat(first|exact AD.refl _|apply AD.al|apply AD.dn|apply AD.dr));all_goals exact AD.refl _):d.C w A n xs:=hw (fun u=>d.C u A n xs) h0 (fun _ o h=>Kd.C_alloc h o) (fun _ m h=>Kd.C_drewN h m) (fun _ h=>Kd.C_drew h)
theorem Yh {w w0 w':World} {g:Nat} {row:Option Nat} (h0:Aside0 (KeepBut w w0 g row)) (h:KeepBut w w' g row:=by repeat(first|(with_reducible first|exact Aside0.out (by assumption)|apply KeepBut.set_|apply keep_drewN|apply keep_drew|apply keep_alloc|refine keep_far ?_ (Aside0.out (by assumption)) _)|exact Aside0.out (by assumption))):KeepBut w w' g row:=h
theorem Yi {w w0 w':World} {S:Nat→Prop} (h0:Aside0 (Kept w w0 S)) (h:Kept w w' S:=by repeat(first|(with_reducible first|exact Aside0.out (by assumption)|apply Kept.alloc|apply Kept.drewN|apply Kept.drew|refine Kept.setCell ?_ (.inl (.inr rfl)) _|refine Kept.setCell ?_ (.inr (Aside0.out (by assumption))) _)|exact Aside0.out (by assumption))):Kept w w' S:=h
theorem Yia {w w0 w':World} {S:Nat→Prop} (h0:Aside0 (Kept w w0 S)) (h:Kept w w' S:=by repeat(first|(with_reducible first|exact Aside0.out (by assumption)|apply Kept.alloc|apply Kept.drewN|apply Kept.drew|refine Kept.setCell ?_ (.inr (Aside0.out (by assumption))) _)|exact Aside0.out (by assumption))):Kept w w' S:=h
theorem Yj {p:Prop} (h:p:=by(try simp only[List.map_toArray,List.map_cons,List.map_nil]);first|done|rfl|(simp only[List.length_drop,List.length_take];rfl)):p:=h
theorem Yk {p:Prop} (h:p:=by first|rfl|(simp;done)|(simp[*];done)):p:=h
theorem Yl {p:Prop} (h:p:=by first|rfl|(simp[errW_none,errW_some]<;>rfl)|(simp[*,errW_none,errW_some]<;>rfl)):p:=h
theorem Ym {p:Prop} [Decidable p] (h:decide p=true:=by first|(with_reducible assumption)|assumption):p:=of_decide_eq_true h
theorem Yn {c:Prop} [Decidable c] {α:Type} {x:Option α} {r:α} (h:(if c then x else none)=some r):c∧x=some r:=by
  split at h
  · exact⟨by assumption,h⟩
  · cases h
theorem Yo {c:Prop} [Decidable c] {α:Type} {x:Option α} {r:α} (h:(if c then none else x)=some r):¬c∧x=some r:=by
  split at h
  · cases h
  · exact⟨by assumption,h⟩
theorem Yp {c:Prop} [Decidable c] {α:Type} {x y:Option α} {r:α} (h:(if c then x else y)=some r):(c∧x=some r)∨(¬c∧y=some r):=by
  split at h
  · exact .inl ⟨by assumption,h⟩
  · exact .inr ⟨by assumption,h⟩
theorem Yq {α β:Type} {o:Option α} {f:α→Option β} {r:β} (h:o.bind f=some r):∃a,Aside0 (o=some a)∧f a=some r:=by
  obtain⟨a,h1,h2⟩:=Option.bind_eq_some_iff.mp h
  exact⟨a,⟨h1⟩,h2⟩
theorem Yr {α β:Type} {x:α} {f:α→Option β} {r:β} (h:(some x).bind f=some r):∃y,Aside0 (y=x)∧f y=some r:=⟨x,⟨rfl⟩,h⟩
theorem Ys {α:Sort _} (x:α):∃y,Aside0 (y=x):=⟨x,⟨rfl⟩⟩
theorem Yt (x:Int):∃j:Int,x=j:=⟨x,rfl⟩
theorem Yu {a j:Int} (h:shl .i64 1 a=j):(IntKind.i64.wrap (1*2 ^ min a.toNat 64))=j∧(a≤64→(IntKind.i64.wrap (1*2 ^ a.toNat))=j)∧(IntKind.i64.wrap (2 ^ min a.toNat 64))=j∧(a≤64→(IntKind.i64.wrap (2 ^ a.toNat))=j)∧(wrap64 (1*2 ^ min a.toNat 64))=j∧(a≤64→(wrap64 (1*2 ^ a.toNat))=j):=
  ⟨h,shl_small h,by have h_:(IntKind.i64.wrap (1*2 ^ min a.toNat 64))=j:=h;rwa [Int.one_mul]at h_,fun hle=>by have h_:=shl_small h hle;rwa [Int.one_mul]at h_,(i64_w _).symm.trans h,fun hle=>(i64_w _).symm.trans (shl_small h hle)⟩
theorem Yv {α:Type} [BEq α] [LawfulBEq α] {a b:α} (h:a=b):(a==b)=true∧(a !=b)=false:=⟨beq_iff_eq.mpr h,bne_eq_false_iff_eq.mpr h⟩
theorem Yw {α:Type} [BEq α] [LawfulBEq α] {a b:α} (h:¬a=b):(a==b)=false∧(a !=b)=true:=⟨beq_eq_false_iff_ne.mpr h,bne_iff_ne.mpr h⟩
theorem Yput (cs:Array Value) (i:Nat) {w W:World} {g t:Nat} {cs':Array Value} {u:Value} (h:w.heap[g]? =some (.cells cs t (0,0))) (hw:AD (w.setCell ⟨g,i,none⟩ u) W:=by(with_reducible repeat(first|exact AD.refl _|apply AD.al|apply AD.dn|apply AD.dr));all_goals exact AD.refl _) (e:cs.setIfInBounds i u=cs':=by rfl):W.heap[g]? =some (.cells cs' t (0,0)):=Yd (blk_put h i u e) hw
theorem Yfr {w W:World} {g b j t:Nat} {cs:Array Value} {u:Value} (hp:Aside0 (g≠b)) (h:w.heap[g]? =some (.cells cs t (0,0))) (hw:AD (w.setCell ⟨b,j,none⟩ u) W:=by(with_reducible repeat(first|exact AD.refl _|apply AD.al|apply AD.dn|apply AD.dr));all_goals exact AD.refl _):W.heap[g]? =some (.cells cs t (0,0)):=Yd (blk_far h hp.out u) hw
theorem Y2 {w:World} {g t:Nat} {a b:Value} (h:Aside0 (w.heap[g]? =some (.cells #[a,b] t (0,0)))):w.cell? ⟨g,0,none⟩=some a∧w.cell? ⟨g,1,none⟩=some b∧w.frozen? ⟨g,0,none⟩=false∧w.frozen? ⟨g,1,none⟩=false:=⟨blk_cell h.out 0,blk_cell h.out 1,blk_frozen h.out 0,blk_frozen h.out 1⟩
theorem Y1 {w:World} {g t:Nat} {a:Value} (h:Aside0 (w.heap[g]? =some (.cells #[a] t (0,0)))):w.cell? ⟨g,0,none⟩=some a∧w.frozen? ⟨g,0,none⟩=false:=⟨blk_cell h.out 0,blk_frozen h.out 0⟩
theorem Y3 {w:World} {g t:Nat} {a b c:Value} (h:Aside0 (w.heap[g]? =some (.cells #[a,b,c] t (0,0)))):w.cell? ⟨g,0,none⟩=some a∧w.cell? ⟨g,1,none⟩=some b∧w.cell? ⟨g,2,none⟩=some c∧w.frozen? ⟨g,0,none⟩=false∧w.frozen? ⟨g,1,none⟩=false∧w.frozen? ⟨g,2,none⟩=false:=⟨blk_cell h.out 0,blk_cell h.out 1,blk_cell h.out 2,blk_frozen h.out 0,blk_frozen h.out 1,blk_frozen h.out 2⟩
section
variable {P:Program} {ops:Array Oper} {Q:Exit→Act→World→Prop} {md:Region.Mode} {S:World→Prop} {ds:List Nat}
theorem Y6 (i:Nat) (N:Option Tmp) {oi:Oper} {v:Value} {fuel:Nat} {l l':Array Bool} {a a':Act} {w:World} {T:Bool × List (List Nat × List Nat)} (hT:Aside0 (rtab md ops=T)) (h:wpAnyLast P md ops Q S ds fuel l' a' w)
    (hl:l.setIfInBounds i true=l':=by(simp only[List.setIfInBounds_toArray,List.set_cons_zero,List.set_cons_succ];rfl)) (hi:ops[i]? =some oi:=by exact rfl) (hN:oi.dst=N:=by exact rfl) (hc:anyT T l.toList l'.toList i=true:=by kernel_rfl)
    (hQ:∀c a w,Q (.panic c) (a.put oi.dst v) w→Q (.panic c) a w:=by exact(fun _ _ _ h=>h)) (hw:Region.wanted oi (yielded ops a.tmps)=true:=by rfl) (hy:∀w,(execOp a.eval oi).run P w=.ok (.value v) w:=by(intro w';go_simp;with_reducible rfl))
    (ha:a.put N v=a':=by(simp only[Act.put,List.setIfInBounds_toArray,List.set_cons_zero,List.set_cons_succ,i64_w,i32_w];rfl)):wpAnyLast P md ops Q S ds (fuel+1) l a w:=pure_ l' hi hN (any_of hT.out hc) hQ (Or.inl ⟨hw,hy⟩) ha h
theorem Y7 (i:Nat) (N:Option Tmp) {oi:Oper} {v:Value} {fuel:Nat} {l l':Array Bool} {a a':Act} {w:World} {T:Bool × List (List Nat × List Nat)} {B:List Nat} (hT:Aside0 (rtab md ops=T)) (hB:Aside0 (waitsOk T.2 B=true)) (hS:S w) (h:wpAnyLast P md ops Q S ds fuel l' a' w)
    (hl:l.setIfInBounds i true=l':=by(simp only[List.setIfInBounds_toArray,List.set_cons_zero,List.set_cons_succ];rfl)) (hi:ops[i]? =some oi:=by exact rfl) (hN:oi.dst=N:=by exact rfl) (hc:takeW T B ds l.toList l'.toList i=true:=by kernel_rfl)
    (hQ:∀c a w,Q (.panic c) (a.put oi.dst v) w→Q (.panic c) a w:=by exact(fun _ _ _ h=>h)) (hw:Region.wanted oi (yielded ops a.tmps)=true:=by rfl) (hy:∀w,S w→(execOp a.eval oi).run P w=.ok (.value v) w:=by(intro w' s;(repeat(have s0:=And.left s;replace s:=And.right s));go_simp;with_reducible rfl))
    (ha:a.put N v=a':=by(simp only[Act.put,List.setIfInBounds_toArray,List.set_cons_zero,List.set_cons_succ,i64_w,i32_w];rfl)):wpAnyLast P md ops Q S ds (fuel+1) l a w:=take_ l' hi hN (take_ofW hT.out hB.out hc) hQ (Or.inl ⟨hw,hy⟩) hS ha h
theorem Y8 (i:Nat) (N:Option Tmp) {oi:Oper} {fuel:Nat} {l l':Array Bool} {a:Act} {w:World} {T:Bool × List (List Nat × List Nat)} (hT:Aside0 (rtab md ops=T))
    (h:∀K:Act→World→Prop,Shut (∀a' w',S w'→(S w'→wpAnyLast P md ops Q S ds fuel l' a' w')→K a' w')→if Region.wanted oi (yielded ops a.tmps)=true then Oper.wp P oi a w K Q else K (a.put N undef) w)
    (hl:l.setIfInBounds i true=l':=by(simp only[List.setIfInBounds_toArray,List.set_cons_zero,List.set_cons_succ];rfl)) (hi:ops[i]? =some oi:=by exact rfl) (hN:oi.dst=N:=by exact rfl) (hc:(readyT T.2 l.toList==[i]&&l.toList.set i true==l'.toList)=true:=by kernel_rfl) (hd:i ∉ ds:=by decide):wpAnyLast P md ops Q S ds (fuel+1) l a w:=one_ l' hi hN (one_of hT.out hc) hd h
theorem Y9 (i:Nat) (N:Option Tmp) {oi:Oper} {fuel:Nat} {l l':Array Bool} {a:Act} {w:World} {T:Bool × List (List Nat × List Nat)} (hT:Aside0 (rtab md ops=T))
    (h:∀K:Act→World→Prop,Shut (∀a' w',wpAnyLast P md ops Q S ds fuel l' a' w'→K a' w')→if Region.wanted oi (yielded ops a.tmps)=true then Oper.wp P oi a w K Q else K (a.put N undef) w)
    (hl:l.setIfInBounds i true=l':=by(simp only[List.setIfInBounds_toArray,List.set_cons_zero,List.set_cons_succ];rfl)) (hi:ops[i]? =some oi:=by exact rfl) (hN:oi.dst=N:=by exact rfl) (hc:(readyT T.2 l.toList==[i]&&l.toList.set i true==l'.toList)=true:=by kernel_rfl) (hd:i ∈ ds:=by decide):wpAnyLast P md ops Q S ds (fuel+1) l a w:=last_ l' hi hN (one_of hT.out hc) hd h
end
section
variable {P:Program} {ops:Array Oper} {rest:List Oper} {o:Oper} {a:Act} {Q:Exit→Act→World→Prop}
theorem Y4 (N:Tmp) (cs:Array Value) (t:TypeId) {W:World}
    (h:∀g,g=W.heap.size→∀w1,w1.heap[g]? =some (.cells cs t (0,0))→Below W.heap.size W w1→wpList P ops Q rest (a.put o.dst (.pointer (some ⟨g,0,none⟩))) w1)
    (hd:o.dst=some N:=by with_reducible rfl) (hg:o.guard=none:=by rfl)
    (hrun:(execOp a.eval o).run P W=.ok (.value (.pointer (some ⟨W.heap.size,0,none⟩))) (W.alloc (.cells cs t (0,0))):=by first|(go_simp;done)|(go_simp;rfl)):wpList P ops Q (o :: rest) a W:=box_event hg hd hrun h
theorem Y5 (f:FuncId) (N:Option Tmp) {fn:Func} {as_:Array Operand} {ts:Array TypeId} (hf:P.funcs[f]? =some fn) (args:Array Value) {w:World} (h:Calls P f args w fun e w'=>∃v,e=.returned v∧wpList P ops Q rest (a.put N v) w')
    (hop:o.op=.call {callee:=.value (.func f),args:=as_,argTypes:=ts}:=by with_reducible rfl) (hd:o.dst=N:=by rfl) (hg:o.guard=none:=by rfl) (hname:(fn.name== "runtime.NumGoroutine")=false:=by kernel_rfl) (hb:fn.body.isSome=true:=by rfl)
    (hargs:as_.map a.eval=args:=by(try simp only[List.map_toArray,List.map_cons,List.map_nil]);first|done|rfl|(simp only[List.length_drop,List.length_take];rfl)):wpList P ops Q (o :: rest) a w:=goesL_ N hd hg hf hname hb args hop hargs h
end
theorem Yundef (i:Nat) (N:Option Tmp) {oi:Oper} {fuel:Nat} {l l':Array Bool} {a a':Act} {w:World} {T:Bool × List (List Nat × List Nat)} {P:Program} {ops:Array Oper} {Q:Exit→Act→World→Prop} {md:Region.Mode} {S:World→Prop} {ds:List Nat} (hT:Aside0 (rtab md ops=T)) (h:wpAnyLast P md ops Q S ds fuel l' a' w)
    (hl:l.setIfInBounds i true=l':=by(simp only[List.setIfInBounds_toArray,List.set_cons_zero,List.set_cons_succ];rfl)) (hi:ops[i]? =some oi:=by exact rfl) (hN:oi.dst=N:=by exact rfl) (hc:anyT T l.toList l'.toList i=true:=by kernel_rfl)
    (hQ:∀c a w,Q (.panic c) (a.put oi.dst undef) w→Q (.panic c) a w:=by exact(fun _ _ _ h=>h)) (hw:Region.wanted oi (yielded ops a.tmps)=false:=by rfl)
    (ha:a.put N undef=a':=by(simp only[Act.put,List.setIfInBounds_toArray,List.set_cons_zero,List.set_cons_succ,i64_w,i32_w];rfl)):wpAnyLast P md ops Q S ds (fuel+1) l a w:=pure_ l' hi hN (any_of hT.out hc) hQ (Or.inr ⟨hw,rfl⟩) ha h
theorem Ynorm {P:Program} {ops:Array Oper} {Q:Exit→Act→World→Prop} {md:Region.Mode} {S:World→Prop} {ds:List Nat} {fuel:Nat} {l:Array Bool} {a a':Act} {w:World} (N:Option Tmp) {b:Act} {v:Value} (h:wpAnyLast P md ops Q S ds fuel l a' w) (hb:a=Act.put b N v:=by exact rfl) (ha:Act.put b N v=a':=by(simp only[Act.put,List.setIfInBounds_toArray,List.set_cons_zero,List.set_cons_succ,i64_w,i32_w];rfl)):wpAnyLast P md ops Q S ds fuel l a w:=norm_ (hb.trans ha) h
theorem Yge {n g:Nat} {w W0 W:World} (h0:Aside0 (Below n w W0)) (hg:g=W.heap.size) (h:Below n w W:=by repeat(first|(with_reducible first|exact Aside0.out (by assumption)|apply below_alloc|apply pw_below_drewN|apply below_drew1|refine below_set ?_ (Aside0.out (by assumption)))|exact Aside0.out (by assumption))):Aside0 (w.heap.size≤g):=⟨by rw[hg];exact h.size⟩
theorem Y0 {w:World} {base:Nat} {ok:Nat→Prop} (k:IntKind) (xs:List Int):Reps ((Kd.int k).M w base ok) (Kd.int k).sz xs (xs.map (Value.int k)):=by
  induction xs with
  |nil=>exact Reps.none _ _
  |cons x xs ih=>exact Reps.one rfl ih
theorem Dn {c:Prop} [Decidable c] {α:Type} {x:Option α} {r:α} (h:(if c then x else none)=some r):decide c=true∧x=some r:=⟨decide_eq_true (Yn h).1,(Yn h).2⟩
theorem Do {c:Prop} [Decidable c] {α:Type} {x:Option α} {r:α} (h:(if c then none else x)=some r):decide c=false∧x=some r:=⟨decide_eq_false (Yo h).1,(Yo h).2⟩
theorem Dn2 {c c':Prop} [Decidable c] [Decidable c'] {α:Type} {x:Option α} {r:α} (h:(if c then(if c' then x else none)else none)=some r):decide c=true∧decide c'=true∧x=some r:=⟨(Dn h).1,Dn (Dn h).2⟩
theorem Dn3 {c c' c'':Prop} [Decidable c] [Decidable c'] [Decidable c''] {α:Type} {x:Option α} {r:α} (h:(if c then(if c' then(if c'' then x else none)else none)else none)=some r):decide c=true∧decide c'=true∧decide c''=true∧x=some r:=⟨(Dn h).1,Dn2 (Dn h).2⟩
theorem Ln {c:Prop} [Decidable c] {α:Type} {x:Option α} {r:α} (h:(if c then x else none)=some r):Aside0 c∧x=some r:=⟨⟨(Yn h).1⟩,(Yn h).2⟩
theorem En {c:Prop} [Decidable c] {α:Type} {x:Option α} {r:α} (h:(if c then x else none)=some r):c=True∧decide c=true∧x=some r:=⟨eq_true (Yn h).1,(Dn h).1,(Yn h).2⟩
theorem Ygo {c:Prop} [Decidable c] {x:Option Bool} (h:(if c then some false else x)=some true):¬c∧x=some true:=by
  split at h
  · cases h
  · exact⟨by assumption,h⟩
theorem Ygn {c:Prop} [Decidable c] {x:Option Bool} (h:(if c then x else some false)=some true):c∧x=some true:=by
  split at h
  · exact⟨by assumption,h⟩
  · cases h
theorem Ygp {c:Prop} [Decidable c] {x y:Option Bool} (h:(if c then x else y)=some true) (hy:y≠some true):c∧x=some true:=by
  split at h
  · exact⟨by assumption,h⟩
  · exact absurd h hy
theorem Ygq {c:Prop} [Decidable c] {x y:Option Bool} (h:(if c then x else y)=some true) (hx:x≠some true):¬c∧y=some true:=by
  split at h
  · exact absurd h hx
  · exact⟨by assumption,h⟩
theorem Ygb {b:Bool} {x:Option Bool} (h:(if b=true then some false else x)=some true):b=false:=by
  cases b
  · rfl
  · cases h
theorem Ybf {α:Type} {x y:Option α} {r:α} (h:(if false=true then x else y)=some r):y=some r:=h
theorem Ybt {α:Type} {x y:Option α} {r:α} (h:(if true=true then x else y)=some r):x=some r:=h
theorem info2:(Tryz.prog.info? 2).map (fun i=>(i.zero,i.size,i.bytes))=some (some (.int .i64 0),1,8):=by kernel_rfl
theorem info5:(Tryz.prog.info? 5).map (fun i=>(i.zero,i.size,i.bytes))=some (some (.int .u8 0),1,1):=by kernel_rfl
theorem info9:(Tryz.prog.info? 9).map (fun i=>(i.zero,i.size,i.bytes))=some (some (.string ⟨#[]⟩),1,16):=by kernel_rfl
theorem info24:(Tryz.prog.info? 24).map (fun i=>(i.zero,i.size,i.bytes))=some (some (.slice none 0 0),1,24):=by kernel_rfl
def rd_L4 (xs:List (List Int)) (i:Int):(List Int):=xs.getD i.toNat ([]:List Int)
theorem at_L4 {w:World} {A:Option Addr} {n:Nat} {xs:List (List Int)} (h:Kd.C (Kd.slice 2 (Kd.int .i64)) w A n xs) (i:Int) (h0:0≤i) (h1:i<n):∃ad A0 c0,A=some ad∧w.cell? (ad.add i.toNat)=some (.slice A0 (rd_L4 xs i).length c0)∧(rd_L4 xs i).length≤c0∧(Kd.int .i64).C w A0 (rd_L4 xs i).length (rd_L4 xs i):=by
  obtain⟨ad,c,e,_,hK,hc0⟩:=Kd.C_get h ([]:List Int) i h0 h1
  have hc:∀j u,c[j]? =some u→w.cell? (ad.add (i.toNat*1+j))=some u:=hc0
  obtain⟨A0,c0,rfl,l0,g0⟩:=hK
  exact⟨ad,A0,c0,e,by have hq:=hc 0 _ rfl;rwa [Nat.mul_one,Nat.add_zero]at hq,l0,g0⟩
def rd_L5 (xs:List (List ByteArray)) (i:Int):(List ByteArray):=xs.getD i.toNat ([]:List ByteArray)
theorem at_L5 {w:World} {A:Option Addr} {n:Nat} {xs:List (List ByteArray)} (h:Kd.C (Kd.slice 9 Kd.string) w A n xs) (i:Int) (h0:0≤i) (h1:i<n):∃ad A0 c0,A=some ad∧w.cell? (ad.add i.toNat)=some (.slice A0 (rd_L5 xs i).length c0)∧(rd_L5 xs i).length≤c0∧Kd.string.C w A0 (rd_L5 xs i).length (rd_L5 xs i):=by
  obtain⟨ad,c,e,_,hK,hc0⟩:=Kd.C_get h ([]:List ByteArray) i h0 h1
  have hc:∀j u,c[j]? =some u→w.cell? (ad.add (i.toNat*1+j))=some u:=hc0
  obtain⟨A0,c0,rfl,l0,g0⟩:=hK
  exact⟨ad,A0,c0,e,by have hq:=hc 0 _ rfl;rwa [Nat.mul_one,Nat.add_zero]at hq,l0,g0⟩
theorem Am {p:Prop} (h:p):Aside0 p:=⟨h⟩
theorem Zb {w0 w w1:World} {g:Nat} {o:Obj} (h0:Aside0 (w0.heap[g]? =some o)) (hb:Below w.heap.size w w1) (hw:AD w0 w:=by(with_reducible repeat(first|exact AD.refl _|apply AD.al|apply AD.dn|apply AD.dr));all_goals exact AD.refl _):Aside0 (w1.heap[g]? =some o):=⟨blk_below (Yd h0.out hw) hb⟩
theorem Zs {w W w2:World} (hb:Below W.heap.size W w2) (h:Below w.heap.size w W:=by repeat(first|(with_reducible first|exact Aside0.out (by assumption)|apply below_alloc|apply pw_below_drewN|apply below_drew1|refine below_set ?_ (Aside0.out (by assumption)))|exact Aside0.out (by assumption))):Aside0 (Below w.heap.size w w2):=⟨below_step h hb⟩
theorem Zr {α:Type} {d:Kd α} {e base:Nat} {w0 w w1:World} {ok:Nat→Prop} {v:Value} {xs:List α} (h0:Aside0 (d.R e w0 base ok v xs)) (hb:Below w.heap.size w w1) (hw:AD w0 w:=by(with_reducible repeat(first|exact AD.refl _|apply AD.al|apply AD.dn|apply AD.dr));all_goals exact AD.refl _):Aside0 (d.R e w1 base ok v xs):=⟨Kd.R_below (YcR h0 hw) hb⟩
theorem Zx {α β:Type} {d:Kd α} {d2:Kd β} {e e2 base:Nat} {w0 W w1 w2:World} {ok ok2:Nat→Prop} {u v:Value} {xs:List α} {ys:List β} (h0:Aside0 (d.R e w0 base ok u xs)) (ho:d2.R e2 w2 W.heap.size ok2 v ys) (hb:Below W.heap.size W w1) (hw:AD w0 W:=by(with_reducible repeat(first|exact AD.refl _|apply AD.al|apply AD.dn|apply AD.dr));all_goals exact AD.refl _):Aside0 (d.R e w1 base (fun k=>ok k∧some k≠v.ownBlock) u xs):=⟨Kd.R_elder' (YcR h0 hw) (Kd.R_base ho) hb⟩
theorem Zl {w0 W:World} {g b:Nat} {o:Obj} (h0:Aside0 (w0.heap[g]? =some o)) (hg:b=W.heap.size) (hw:AD w0 W:=by(with_reducible repeat(first|exact AD.refl _|apply AD.al|apply AD.dn|apply AD.dr));all_goals exact AD.refl _):Aside0 (g≠b):=⟨by rw[hg];exact Nat.ne_of_lt (blk_lt (Yd h0.out hw))⟩
theorem Zm {w0 W:World} {g b:Nat} {o:Obj} (h0:Aside0 (w0.heap[g]? =some o)) (hg:b=W.heap.size) (hw:AD w0 W:=by(with_reducible repeat(first|exact AD.refl _|apply AD.al|apply AD.dn|apply AD.dr));all_goals exact AD.refl _):Aside0 (b≠g):=⟨by rw[hg];exact Nat.ne_of_gt (blk_lt (Yd h0.out hw))⟩
theorem Zf {α:Type} {d:Kd α} {e base g t:Nat} {w w2:World} {ok ok2:Nat→Prop} {v:Value} {xs:List α} {cs:Array Value} (h:Aside0 (d.R e w base ok v xs)) (b:Aside0 (w.heap[g]? =some (.cells cs t (0,0)))) (u0 u1:Value) (F:∀k,(ok k∧k≠g)→ok2 k) (ht:∀q∈e::d.E,q≠t:=by decide) (hw:AD ((w.setCell ⟨g,0,none⟩ u0).setCell ⟨g,1,none⟩ u1) w2:=by(with_reducible repeat(first|exact AD.refl _|apply AD.al|apply AD.dn|apply AD.dr));all_goals exact AD.refl _):d.R e w2 base ok2 v xs:=YbR (Kd.R_mono (Kd.R_far (p:=⟨g,1,none⟩) (Kd.R_far (p:=⟨g,0,none⟩) (Kd.R_types h.out b.out ht) (fun _ hk=>hk.2) u0) (fun _ hk=>hk.2) u1) F) hw
theorem Zg {α:Type} {d:Kd α} {e base g t:Nat} {w w2:World} {ok:Nat→Prop} {v:Value} {xs:List α} {cs:Array Value} (h:Aside0 (d.R e w base ok v xs)) (b:Aside0 (w.heap[g]? =some (.cells cs t (0,0)))) (u0 u1:Value) (ht:∀q∈e::d.E,q≠t:=by decide) (hw:AD ((w.setCell ⟨g,0,none⟩ u0).setCell ⟨g,1,none⟩ u1) w2:=by(with_reducible repeat(first|exact AD.refl _|apply AD.al|apply AD.dn|apply AD.dr));all_goals exact AD.refl _):d.R e w2 base ok v xs:=Zf h b u0 u1 (fun _ h_=>h_.1) ht hw
theorem Zk {w0 w w1:World} {g g1:Nat} {row:Option Nat} {o:Obj} (hk:KeepBut w w1 g row) (h0:Aside0 (w0.heap[g1]? =some o)) (hn:Aside0 (g1≠g)) (hr:some g1≠row:=by simp) (hw:AD w0 w:=by(with_reducible repeat(first|exact AD.refl _|apply AD.al|apply AD.dn|apply AD.dr));all_goals exact AD.refl _):Aside0 (w1.heap[g1]? =some o):=⟨KeepBut.blk hk (Yd h0.out hw) hn.out hr⟩
end Go.Proofs.YtmofdldplbplbaaGreatDoor.P
