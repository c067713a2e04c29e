/- The row of the law FnGraphs: its machine's side by the print, its pure statement in YtmofdldplbplbaaGreatDoorPureFnGraphs. Written by a program of this workplace (wip/bin/lawrow.py). -/
import Derived.Test.YtmofdldplbplbaaGreatDoorRows
import Derived.Test.YtmofdldplbplbaaGreatDoorMFG23
import Derived.Test.YtmofdldplbplbaaGreatDoorPureFnGraphs
import Derived.WalkKit
import Derived.ProofKit
import Derived.OpenShut
import Derived.ShutString
import Derived.ChangeOld
import Derived.Below
import Derived.SizedLaws
import Derived.Carry
import Derived.Lib.SmallJoins
import Derived.LaidMore
import Derived.MakeChecks
import Derived.LaidLaws
import Derived.LaidHandle
import Derived.Lib.LaidTab
import Derived.Lib.TrailingZeros
import Derived.Handed
import Derived.SevenTiedAt
import Derived.LaidSub
import Derived.Lay
import Derived.Test.YtmofdldplbplbaaGreatDoorTie
import Derived.Test.YtmofdldplbplbaaGreatDoorCards
namespace Go.Proofs.YtmofdldplbplbaaGreatDoor.fnGraphs
open Go.ChangeShapes Go.WideShapes Go.ChangeAt Go.RowKit Go.Joins Go.Proofs.YtmofdldplbplbaaGreatDoorW.PrintWords Go.Proofs.YtmofdldplbplbaaGreatDoorW.PrintLast Go.Proofs.YtmofdldplbplbaaGreatDoor.P
open Go.ChangeMaps (open_string shut_string)
set_option linter.unusedVariables false
set_option linter.unusedSimpArgs false
theorem own:ownKnob Tryz.prog.godebug=none:=by kernel_rfl
theorem laidOut:laidOutB Tryz.prog=true:=by kernel_rfl
def IsRow (k:IntKind) (w:World) (a:Option Addr) (len cap:Nat) (zs:List Int):Prop:=
  (a=none∧len=0∧cap=0∧zs=[])∨
  ∃x,a=some x∧len≤cap∧cap≤maxLen∧zs.length=cap∧(∀i,i<zs.length→w.cell? (x.add i)=some (.int k (zs.getD i 0)))∧∀n ∈ zs,(Lit.int k n).wf=true
theorem gTab:Tryz.prog.globalNamed "math/bits.deBruijn64tab" =some 0:=by kernel_rfl
theorem tTab:(Tryz.prog.globals[0]?).map (·.type)=some 103:=by kernel_rfl
theorem tab_of_laid {W:World} (h:laidMetH Tryz.prog Rows.fnGraphsRow.laid W):TabW W:=by
  rw[MakeChecks.laidMetH_plain _ _ _ (by kernel_rfl)]at h
  have h2:laidMet Tryz.prog [("math/bits.deBruijn64tab",Lib.tabData .u8 (Lib.deBruijn64tab.map fun n:Nat=>(n:Int)))] W:=by
    have h1:=laidMet.filter (fun x=>x.1== "math/bits.deBruijn64tab") h
    have e:(Rows.fnGraphsRow.laid.filter fun x=>x.1== "math/bits.deBruijn64tab")=[("math/bits.deBruijn64tab",Lib.tabData .u8 (Lib.deBruijn64tab.map fun n:Nat=>(n:Int)))]:=by kernel_rfl
    rw[e]at h1
    exact h1
  have h3:=Lib.tabIs_of_head (k:=.u8) (zs:=Lib.deBruijn64tab.map fun n:Nat=>(n:Int)) gTab tTab Tryz.underlying103 Tryz.underlying5 (by kernel_rfl) (by kernel_rfl) h2
  intro j hj
  have h4:=Lib.TabIs.cell h3 gTab j (by rw[List.length_map];exact hj)
  rw[h4]
  simp only[List.getD_eq_getElem?_getD,List.getElem?_map]
  cases Lib.deBruijn64tab[j]?<;>simp
theorem walk (A0:Option Addr) (len0 cap0:Nat) (z0:List Int) (w:World) (hT:TabW w) (w0:IsRow .u8 w A0 len0 cap0 z0) :
    Calls Tryz.prog 3 #[.slice A0 len0 cap0] w fun e w'=>e=.returned (.bool true)∧Below w.heap.size w w':=by
  obtain⟨l0,rfl,hr0,hm0,hw0,hc0⟩:=ReadsInt.ofRowC w0
  obtain⟨k,h⟩:=Pure.FnGraphs l0 hm0 hw0
  refine(Qar.calls k _ _ l0 true w (Kd.C_of_reads (d:=(0:Int)) (h1:=fun _=>rfl) hr0) hc0 hT h).mono ?_
  rintro e w' ⟨rfl,hd⟩
  exact⟨rfl,hd⟩
set_option maxRecDepth 100000 in
theorem lifted (os:Os) (started:os.Started) (H:Type) (enc:TypeId × Value→H) :
    ReturnsInHanded {} Tryz.checked os 3 .any (fun w args=>(Rows.fnGraphsSpec.pre enc Tryz.prog Tryz.f3 Rows.fnGraphsRow.domain false w args∧laidMetH Tryz.prog Rows.fnGraphsRow.laid w)∧sizedMet enc Tryz.prog Tryz.f3 (OpenSpec.ofChange Rows.fnGraphsSpec) false w args) (Rows.fnGraphsSpec.post enc Tryz.prog Tryz.f3 false true false false):=by
  refine returnsInHanded_of_change_and (C:=Tryz.checked) (X:=(fun w _=>laidMetH Tryz.prog Rows.fnGraphsRow.laid w)) (fun _ _ _ hh h=>h.of_heap hh) own started (by kernel_rfl) Tryz.func3
    (ChangeSpec.witness_shaped (enc:=enc) (C:=Tryz.checked) (os:=os) (X:=(fun w _=>laidMetH Tryz.prog Rows.fnGraphsRow.laid w)) false (World.laidAll Tryz.prog os Rows.fnGraphsRow.laid) #[.slice none 0 0] 8 (World.laidAll_os _ _ _) (World.shaped_of_ZipB (by kernel_rfl) (by kernel_rfl)) (by kernel_rfl) (by kernel_rfl) (by kernel_rfl) (by rw[MakeChecks.laidMetH_plain _ _ _ (by kernel_rfl)];exact laidMet_laidAll _ (by kernel_rfl) (by kernel_rfl))) ?_
  intro W base args ds gs before hval0 hW hcnd hsz0 hL _
  have hT:=tab_of_laid hL
  clear hL
  have hsz:(DataW.weightsEach Tryz.prog (Tryz.f3.params.toList++Rows.fnGraphsSpec.plain.varTypes Tryz.prog) (ds++gs)).all (· ≤reachBytes)=true:=hsz0
  have hval:∀(j:Nat) t v,Tryz.f3.params[j]? =some t→args[j]? =some v→Value.okWide Tryz.prog W .any base t v:=hval0
  have hW':=hW
  obtain⟨p,q,hA0,hV,rfl,hfz,hnd⟩:=hW
  have hA:DataW.TrodAll enc Tryz.prog W 0 (fun _=>true) true Tryz.f3.params.toList args.toList ds p:=hA0
  rw[Tryz.params3]at hA hval hsz
  obtain⟨v0,vs0,d0,ds0,p0,q0,hargs,rfl,rfl,h0,r0⟩:=trodAll_cons hA
  obtain⟨rfl,rfl,rfl⟩:=trodAll_nil r0
  obtain rfl:args=#[v0]:=by cases args;simp_all
  obtain⟨rfl,rfl⟩:=trodVars_none hV
  have k0:=h0
  have lt0:∀x ∈ p0,x.block<W.heap.size:=by obtain⟨m,hm⟩:=k0;exact DataW.trod_lt m _ _ _ hm
  obtain⟨A0,len0,cap0,rfl⟩:=okWide_slice Tryz.underlying22 (hval 0 22 v0 rfl rfl)
  obtain⟨z0,w0⟩:∃zs,IsRow .u8 W A0 len0 cap0 zs:=by
    obtain⟨fuel,hf⟩:=h0
    rcases open_ints Tryz.underlying22 Tryz.underlying5 (by kernel_rfl) hf with⟨hcs,_⟩|⟨x,l,c,zs,hcs,_,hl,hm,hz,_,hcell,hwz⟩
    · simp[Value.cells]at hcs
      obtain⟨rfl,rfl,rfl⟩:=hcs
      exact⟨[],.inl ⟨rfl,rfl,rfl,rfl⟩⟩
    · simp[Value.cells]at hcs
      obtain⟨rfl,rfl,rfl⟩:=hcs
      exact⟨zs,.inr ⟨_,rfl,hl,hm,by simpa using hz,hcell,hwz⟩⟩
  clear hA0 hval0 hsz0 hsz
  refine(walk A0 len0 cap0 z0 W hT w0).mono fun e W' ⟨he,bel⟩=>?_
  subst he
  exact⟨_,rfl,_,_,_,[],_,[],hW',trodAll_mk1 (shut_bool Tryz.underlying4 _),(trodAll_cons_mk (Below.trod laidOut (by kernel_rfl) (of_decide_eq_true (by kernel_rfl)) k0 bel lt0) trodAll_mk0),rfl,bel.frame _,fun h=>by cases h⟩
theorem over:Rows.fnGraphsRow.holds Tryz.pinned (OpenSpec.ofChange Rows.fnGraphsSpec):=
  OpenClaim.holds_of_wide 3 Tryz.f3 rfl rfl rfl rfl rfl rfl rfl ⟨rfl,rfl,rfl,rfl,rfl⟩ rfl rfl rfl rfl rfl (by kernel_rfl) Tryz.func3 (by kernel_rfl)
    (of_decide_eq_true (by kernel_rfl)) (by unfold Func.isWrapper;first|(rw[if_pos (by decide +kernel)];kernel_rfl)|(rw[if_neg (by decide +kernel)];exact⟨rfl,rfl⟩))
    (fun os started H enc _=>lifted os started H enc)
theorem proved:Rows.FnGraphsSaid:=over
theorem card_holds:Rows.FnGraphsCardSaid:=
  Claim7.holds_tied_plain_at .later [] [.data,.data,.data,.data,.pinned] true (true, "16e335ce5f953eb8e6bf3d301fc0faacc0cc2dd9277a4018602496584b2c56e7") false
    proved (fun _ h=>by cases h) (by kernel_rfl) (fun _ h=>by cases h) fnGraphs_row_tie rfl ⟨rfl,rfl⟩ (by kernel_rfl) rfl
    (fun f fn hf hfn=>by
      obtain rfl:f=3:=Option.some.inj ((show Tryz.prog.funcNamed "loop.example/g01331/laws.FnGraphs" =some 3 by kernel_rfl).symm.trans hf) |>.symm
      obtain rfl:fn=Tryz.f3:=(Option.some.inj (Tryz.func3.symm.trans hfn)).symm
      refine⟨by kernel_rfl,fun j t ht=>?_⟩
      rw[Tryz.params3]at ht
      have hm:t ∈ [22]:=by
        have:=Array.mem_of_getElem? ht
        simpa using this
      simp only[List.mem_cons,List.not_mem_nil,or_false]at hm
      rcases hm with rfl
      all_goals exact(show Tryz.prog.wantsStandIn _=false by kernel_rfl))
    (by kernel_rfl)
end Go.Proofs.YtmofdldplbplbaaGreatDoor.fnGraphs
namespace Go.Proofs.YtmofdldplbplbaaGreatDoor
theorem fnGraphs_holds:Rows.FnGraphsCardSaid:=fnGraphs.card_holds
end Go.Proofs.YtmofdldplbplbaaGreatDoor
