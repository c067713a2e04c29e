/- The row of the law FnArrays: its machine's side by the print, its pure statement in YtmofdldplbplbaaDoorPureFnArrays. Written by a program of this workplace (wip/bin/lawrow.py). -/
import Derived.Test.YtmofdldplbplbaaDoorRows
import Derived.Test.YtmofdldplbplbaaDoorMFA23
import Derived.Test.YtmofdldplbplbaaDoorPureFnArrays
import Derived.WalkKit
import Derived.ProofKit
import Derived.OpenShut
import Derived.ShutString
import Derived.ChangeOld
import Derived.Below
import Derived.SizedLaws
import Derived.Carry
import Derived.Lib.SmallJoins
import Derived.LaidMore
import Derived.MakeChecks
import Derived.LaidLaws
import Derived.LaidHandle
import Derived.Lib.LaidTab
import Derived.Lib.TrailingZeros
import Derived.Handed
import Derived.SevenTiedAt
import Derived.Test.YtmofdldplbplbaaDoorTie
import Derived.Test.YtmofdldplbplbaaDoorCards
namespace Go.Proofs.YtmofdldplbplbaaDoor.fnArrays
open Go.ChangeShapes Go.WideShapes Go.ChangeAt Go.RowKit Go.Joins Go.Proofs.YtmofdldplbplbaaDoorW.PrintWords Go.Proofs.YtmofdldplbplbaaDoorW.PrintLast Go.Proofs.YtmofdldplbplbaaDoor.P
open Go.ChangeMaps (open_string shut_string)
set_option linter.unusedVariables false
set_option linter.unusedSimpArgs false
theorem own:ownKnob Tryd.prog.godebug=none:=by kernel_rfl
theorem laidOut:laidOutB Tryd.prog=true:=by kernel_rfl
def IsRow (k:IntKind) (w:World) (a:Option Addr) (len cap:Nat) (zs:List Int):Prop:=
  (a=none∧len=0∧cap=0∧zs=[])∨
  ∃x,a=some x∧len≤cap∧cap≤maxLen∧zs.length=cap∧(∀i,i<zs.length→w.cell? (x.add i)=some (.int k (zs.getD i 0)))∧∀n ∈ zs,(Lit.int k n).wf=true
theorem gTab:Tryd.prog.globalNamed "math/bits.deBruijn64tab" =some 0:=by kernel_rfl
theorem tTab:(Tryd.prog.globals[0]?).map (·.type)=some 148:=by kernel_rfl
theorem tab_of_laid {W:World} (h:laidMetH Tryd.prog Rows.fnArraysRow.laid W):TabW W:=by
  rw[MakeChecks.laidMetH_plain _ _ _ (by kernel_rfl)]at h
  have h2:laidMet Tryd.prog [("math/bits.deBruijn64tab",Lib.tabData .u8 (Lib.deBruijn64tab.map fun n:Nat=>(n:Int)))] W:=h
  have h3:=Lib.tabIs_of_head (k:=.u8) (zs:=Lib.deBruijn64tab.map fun n:Nat=>(n:Int)) gTab tTab Tryd.underlying148 Tryd.underlying5 (by kernel_rfl) (by kernel_rfl) h2
  intro j hj
  have h4:=Lib.TabIs.cell h3 gTab j (by rw[List.length_map];exact hj)
  rw[h4]
  simp only[List.getD_eq_getElem?_getD,List.getElem?_map]
  cases Lib.deBruijn64tab[j]?<;>simp
theorem door_met (os:Os) (args:Array Value):laidMetH Tryd.prog Rows.fnArraysRow.laid ((World.doorLaid Tryd.prog 400 os).forCall (fun _ _=>0) ⟨#[],args,[]⟩).memory:=
  laidMetH_of_parts3 (fuel:=8) (laidMet_of_run' 8 (by kernel_rfl) (by kernel_rfl)) (by kernel_rfl) (by kernel_rfl)
theorem walk (A0:Option Addr) (len0 cap0:Nat) (z0:List Int) (w:World) (hT:TabW w) (w0:IsRow .u8 w A0 len0 cap0 z0) :
    Calls Tryd.prog 3 #[.slice A0 len0 cap0] w fun e w'=>e=.returned (.bool true)∧Below w.heap.size w w':=by
  obtain⟨l0,rfl,hr0,hm0,hw0,hc0⟩:=ReadsInt.ofRowC w0
  obtain⟨k,h⟩:=Pure.FnArrays l0 hm0 hw0
  refine(Qab.calls k _ _ l0 true w (Kd.C_of_reads (d:=(0:Int)) (h1:=fun _=>rfl) hr0) hc0 hT h).mono ?_
  rintro e w' ⟨rfl,hd⟩
  exact⟨rfl,hd⟩
set_option maxRecDepth 100000 in
theorem lifted (os:Os) (started:os.Started) (H:Type) (enc:TypeId × Value→H) :
    ReturnsInHanded {} Tryd.checked os 3 .any (fun w args=>(Rows.fnArraysSpec.pre enc Tryd.prog Tryd.f3 Rows.fnArraysRow.domain false w args∧laidMetH Tryd.prog Rows.fnArraysRow.laid w)∧sizedMet enc Tryd.prog Tryd.f3 (OpenSpec.ofChange Rows.fnArraysSpec) false w args) (Rows.fnArraysSpec.post enc Tryd.prog Tryd.f3 false true false false):=by
  refine returnsInHanded_of_change_and (C:=Tryd.checked) (X:=(fun w _=>laidMetH Tryd.prog Rows.fnArraysRow.laid w)) (fun _ _ _ hh h=>h.of_heap hh) own started (by kernel_rfl) Tryd.func3
    (ChangeSpec.witness_shaped (enc:=enc) (C:=Tryd.checked) (os:=os) (X:=(fun w _=>laidMetH Tryd.prog Rows.fnArraysRow.laid w)) false (World.doorLaid Tryd.prog 400 os) #[.slice none 0 0] 8 rfl (World.shaped_of_RefB (by kernel_rfl) (by kernel_rfl)) (by kernel_rfl) (by kernel_rfl) (by kernel_rfl) (door_met os _)) ?_
  intro W base args ds gs before hval0 hW hcnd hsz0 hL _
  have hT:=tab_of_laid hL
  clear hL
  have hsz:(DataW.weightsEach Tryd.prog (Tryd.f3.params.toList++Rows.fnArraysSpec.plain.varTypes Tryd.prog) (ds++gs)).all (· ≤reachBytes)=true:=hsz0
  have hval:∀(j:Nat) t v,Tryd.f3.params[j]? =some t→args[j]? =some v→Value.okWide Tryd.prog W .any base t v:=hval0
  have hW':=hW
  obtain⟨p,q,hA0,hV,rfl,hfz,hnd⟩:=hW
  have hA:DataW.TrodAll enc Tryd.prog W 0 (fun _=>true) true Tryd.f3.params.toList args.toList ds p:=hA0
  rw[Tryd.params3]at hA hval hsz
  obtain⟨v0,vs0,d0,ds0,p0,q0,hargs,rfl,rfl,h0,r0⟩:=trodAll_cons hA
  obtain⟨rfl,rfl,rfl⟩:=trodAll_nil r0
  obtain rfl:args=#[v0]:=by cases args;simp_all
  obtain⟨rfl,rfl⟩:=trodVars_none hV
  have k0:=h0
  have lt0:∀x ∈ p0,x.block<W.heap.size:=by obtain⟨m,hm⟩:=k0;exact DataW.trod_lt m _ _ _ hm
  obtain⟨A0,len0,cap0,rfl⟩:=okWide_slice Tryd.underlying22 (hval 0 22 v0 rfl rfl)
  obtain⟨z0,w0⟩:∃zs,IsRow .u8 W A0 len0 cap0 zs:=by
    obtain⟨fuel,hf⟩:=h0
    rcases open_ints Tryd.underlying22 Tryd.underlying5 (by kernel_rfl) hf with⟨hcs,_⟩|⟨x,l,c,zs,hcs,_,hl,hm,hz,_,hcell,hwz⟩
    · simp[Value.cells]at hcs
      obtain⟨rfl,rfl,rfl⟩:=hcs
      exact⟨[],.inl ⟨rfl,rfl,rfl,rfl⟩⟩
    · simp[Value.cells]at hcs
      obtain⟨rfl,rfl,rfl⟩:=hcs
      exact⟨zs,.inr ⟨_,rfl,hl,hm,by simpa using hz,hcell,hwz⟩⟩
  clear hA0 hval0 hsz0 hsz
  refine(walk A0 len0 cap0 z0 W hT w0).mono fun e W' ⟨he,bel⟩=>?_
  subst he
  exact⟨_,rfl,_,_,_,[],_,[],hW',trodAll_mk1 (shut_bool Tryd.underlying4 _),(trodAll_cons_mk (Below.trod laidOut (by kernel_rfl) (of_decide_eq_true (by kernel_rfl)) k0 bel lt0) trodAll_mk0),rfl,bel.frame _,fun h=>by cases h⟩
theorem over:Rows.fnArraysRow.holds Tryd.pinned (OpenSpec.ofChange Rows.fnArraysSpec):=
  OpenClaim.holds_of_wide 3 Tryd.f3 rfl rfl rfl rfl rfl rfl rfl ⟨rfl,rfl,rfl,rfl,rfl⟩ rfl rfl rfl rfl rfl (by kernel_rfl) Tryd.func3 (by kernel_rfl)
    (of_decide_eq_true (by kernel_rfl)) (by unfold Func.isWrapper;first|(rw[if_pos (by decide +kernel)];kernel_rfl)|(rw[if_neg (by decide +kernel)];exact⟨rfl,rfl⟩))
    (fun os started H enc _=>lifted os started H enc)
theorem proved:Rows.FnArraysSaid:=over
theorem card_holds:Rows.FnArraysCardSaid:=
  Claim7.holds_tied_plain_at .later [] [.data] true (true, "698dc039a1fc6f40587aa1ec377a0ab6a731dfaa196095b939b72aef703177bd") false
    proved (fun _ h=>by cases h) (by kernel_rfl) (fun _ h=>by cases h) fnArrays_row_tie rfl ⟨rfl,rfl⟩ (by kernel_rfl) rfl
    (fun f fn hf hfn=>by
      obtain rfl:f=3:=Option.some.inj ((show Tryd.prog.funcNamed "loop.example/g01331/laws.FnArrays" =some 3 by kernel_rfl).symm.trans hf) |>.symm
      obtain rfl:fn=Tryd.f3:=(Option.some.inj (Tryd.func3.symm.trans hfn)).symm
      refine⟨by kernel_rfl,fun j t ht=>?_⟩
      rw[Tryd.params3]at ht
      have hm:t ∈ [22]:=by
        have:=Array.mem_of_getElem? ht
        simpa using this
      simp only[List.mem_cons,List.not_mem_nil,or_false]at hm
      rcases hm with rfl
      all_goals exact(show Tryd.prog.wantsStandIn _=false by kernel_rfl))
    (by kernel_rfl)
end Go.Proofs.YtmofdldplbplbaaDoor.fnArrays
namespace Go.Proofs.YtmofdldplbplbaaDoor
theorem fnArrays_holds:Rows.FnArraysCardSaid:=fnArrays.card_holds
end Go.Proofs.YtmofdldplbplbaaDoor
