-- Printed by a program of this workplace (wip/xp/xp.py), joined by wip/bin/mergeP.
import Derived.Test.YtmofdldplbplbaaDoorMFD0
import Derived.Test.YtmofdldplbplbaaDoorMFD2
import Derived.Test.YtmofdldplbplbaaDoorMFD1
namespace Go.Proofs.YtmofdldplbplbaaDoor.P
open Go.RowKit Go.Proofs.YtmofdldplbplbaaDoorW.PrintWords Go.Proofs.YtmofdldplbplbaaDoorW.PrintLast Go.Proofs.YtmofdldplbplbaaDoorW.PrintMore
attribute [local go_sem] max2_int min2_int max_two min_two max_three min_three max_four min_four
set_option linter.unusedVariables false
set_option linter.unusedSimpArgs false
def Qcx.f (a0:Int):Option (Int):=some (Go.bits .and .i64 (wrap64 (IntKind.u64.wrap ((IntKind.u64.wrap ((IntKind.u64.wrap ((Go.bits .and .u64 (IntKind.u64.wrap (((IntKind.u64.wrap ((Go.bits .and .u64 ((IntKind.u64.wrap ((Go.bits .and .u64 (a0/2) 6148914691236517205)+(Go.bits .and .u64 a0 6148914691236517205)))/4) 3689348814741910323)+(Go.bits .and .u64 (IntKind.u64.wrap ((Go.bits .and .u64 (a0/2) 6148914691236517205)+(Go.bits .and .u64 a0 6148914691236517205))) 3689348814741910323)))/16)+(IntKind.u64.wrap ((Go.bits .and .u64 ((IntKind.u64.wrap ((Go.bits .and .u64 (a0/2) 6148914691236517205)+(Go.bits .and .u64 a0 6148914691236517205)))/4) 3689348814741910323)+(Go.bits .and .u64 (IntKind.u64.wrap ((Go.bits .and .u64 (a0/2) 6148914691236517205)+(Go.bits .and .u64 a0 6148914691236517205))) 3689348814741910323))))) 1085102592571150095)+((Go.bits .and .u64 (IntKind.u64.wrap (((IntKind.u64.wrap ((Go.bits .and .u64 ((IntKind.u64.wrap ((Go.bits .and .u64 (a0/2) 6148914691236517205)+(Go.bits .and .u64 a0 6148914691236517205)))/4) 3689348814741910323)+(Go.bits .and .u64 (IntKind.u64.wrap ((Go.bits .and .u64 (a0/2) 6148914691236517205)+(Go.bits .and .u64 a0 6148914691236517205))) 3689348814741910323)))/16)+(IntKind.u64.wrap ((Go.bits .and .u64 ((IntKind.u64.wrap ((Go.bits .and .u64 (a0/2) 6148914691236517205)+(Go.bits .and .u64 a0 6148914691236517205)))/4) 3689348814741910323)+(Go.bits .and .u64 (IntKind.u64.wrap ((Go.bits .and .u64 (a0/2) 6148914691236517205)+(Go.bits .and .u64 a0 6148914691236517205))) 3689348814741910323))))) 1085102592571150095)/256)))+((IntKind.u64.wrap ((Go.bits .and .u64 (IntKind.u64.wrap (((IntKind.u64.wrap ((Go.bits .and .u64 ((IntKind.u64.wrap ((Go.bits .and .u64 (a0/2) 6148914691236517205)+(Go.bits .and .u64 a0 6148914691236517205)))/4) 3689348814741910323)+(Go.bits .and .u64 (IntKind.u64.wrap ((Go.bits .and .u64 (a0/2) 6148914691236517205)+(Go.bits .and .u64 a0 6148914691236517205))) 3689348814741910323)))/16)+(IntKind.u64.wrap ((Go.bits .and .u64 ((IntKind.u64.wrap ((Go.bits .and .u64 (a0/2) 6148914691236517205)+(Go.bits .and .u64 a0 6148914691236517205)))/4) 3689348814741910323)+(Go.bits .and .u64 (IntKind.u64.wrap ((Go.bits .and .u64 (a0/2) 6148914691236517205)+(Go.bits .and .u64 a0 6148914691236517205))) 3689348814741910323))))) 1085102592571150095)+((Go.bits .and .u64 (IntKind.u64.wrap (((IntKind.u64.wrap ((Go.bits .and .u64 ((IntKind.u64.wrap ((Go.bits .and .u64 (a0/2) 6148914691236517205)+(Go.bits .and .u64 a0 6148914691236517205)))/4) 3689348814741910323)+(Go.bits .and .u64 (IntKind.u64.wrap ((Go.bits .and .u64 (a0/2) 6148914691236517205)+(Go.bits .and .u64 a0 6148914691236517205))) 3689348814741910323)))/16)+(IntKind.u64.wrap ((Go.bits .and .u64 ((IntKind.u64.wrap ((Go.bits .and .u64 (a0/2) 6148914691236517205)+(Go.bits .and .u64 a0 6148914691236517205)))/4) 3689348814741910323)+(Go.bits .and .u64 (IntKind.u64.wrap ((Go.bits .and .u64 (a0/2) 6148914691236517205)+(Go.bits .and .u64 a0 6148914691236517205))) 3689348814741910323))))) 1085102592571150095)/256)))/65536)))+((IntKind.u64.wrap ((IntKind.u64.wrap ((Go.bits .and .u64 (IntKind.u64.wrap (((IntKind.u64.wrap ((Go.bits .and .u64 ((IntKind.u64.wrap ((Go.bits .and .u64 (a0/2) 6148914691236517205)+(Go.bits .and .u64 a0 6148914691236517205)))/4) 3689348814741910323)+(Go.bits .and .u64 (IntKind.u64.wrap ((Go.bits .and .u64 (a0/2) 6148914691236517205)+(Go.bits .and .u64 a0 6148914691236517205))) 3689348814741910323)))/16)+(IntKind.u64.wrap ((Go.bits .and .u64 ((IntKind.u64.wrap ((Go.bits .and .u64 (a0/2) 6148914691236517205)+(Go.bits .and .u64 a0 6148914691236517205)))/4) 3689348814741910323)+(Go.bits .and .u64 (IntKind.u64.wrap ((Go.bits .and .u64 (a0/2) 6148914691236517205)+(Go.bits .and .u64 a0 6148914691236517205))) 3689348814741910323))))) 1085102592571150095)+((Go.bits .and .u64 (IntKind.u64.wrap (((IntKind.u64.wrap ((Go.bits .and .u64 ((IntKind.u64.wrap ((Go.bits .and .u64 (a0/2) 6148914691236517205)+(Go.bits .and .u64 a0 6148914691236517205)))/4) 3689348814741910323)+(Go.bits .and .u64 (IntKind.u64.wrap ((Go.bits .and .u64 (a0/2) 6148914691236517205)+(Go.bits .and .u64 a0 6148914691236517205))) 3689348814741910323)))/16)+(IntKind.u64.wrap ((Go.bits .and .u64 ((IntKind.u64.wrap ((Go.bits .and .u64 (a0/2) 6148914691236517205)+(Go.bits .and .u64 a0 6148914691236517205)))/4) 3689348814741910323)+(Go.bits .and .u64 (IntKind.u64.wrap ((Go.bits .and .u64 (a0/2) 6148914691236517205)+(Go.bits .and .u64 a0 6148914691236517205))) 3689348814741910323))))) 1085102592571150095)/256)))+((IntKind.u64.wrap ((Go.bits .and .u64 (IntKind.u64.wrap (((IntKind.u64.wrap ((Go.bits .and .u64 ((IntKind.u64.wrap ((Go.bits .and .u64 (a0/2) 6148914691236517205)+(Go.bits .and .u64 a0 6148914691236517205)))/4) 3689348814741910323)+(Go.bits .and .u64 (IntKind.u64.wrap ((Go.bits .and .u64 (a0/2) 6148914691236517205)+(Go.bits .and .u64 a0 6148914691236517205))) 3689348814741910323)))/16)+(IntKind.u64.wrap ((Go.bits .and .u64 ((IntKind.u64.wrap ((Go.bits .and .u64 (a0/2) 6148914691236517205)+(Go.bits .and .u64 a0 6148914691236517205)))/4) 3689348814741910323)+(Go.bits .and .u64 (IntKind.u64.wrap ((Go.bits .and .u64 (a0/2) 6148914691236517205)+(Go.bits .and .u64 a0 6148914691236517205))) 3689348814741910323))))) 1085102592571150095)+((Go.bits .and .u64 (IntKind.u64.wrap (((IntKind.u64.wrap ((Go.bits .and .u64 ((IntKind.u64.wrap ((Go.bits .and .u64 (a0/2) 6148914691236517205)+(Go.bits .and .u64 a0 6148914691236517205)))/4) 3689348814741910323)+(Go.bits .and .u64 (IntKind.u64.wrap ((Go.bits .and .u64 (a0/2) 6148914691236517205)+(Go.bits .and .u64 a0 6148914691236517205))) 3689348814741910323)))/16)+(IntKind.u64.wrap ((Go.bits .and .u64 ((IntKind.u64.wrap ((Go.bits .and .u64 (a0/2) 6148914691236517205)+(Go.bits .and .u64 a0 6148914691236517205)))/4) 3689348814741910323)+(Go.bits .and .u64 (IntKind.u64.wrap ((Go.bits .and .u64 (a0/2) 6148914691236517205)+(Go.bits .and .u64 a0 6148914691236517205))) 3689348814741910323))))) 1085102592571150095)/256)))/65536)))/4294967296)))) 127)
set_option maxHeartbeats 8000000 in
set_option maxRecDepth 100000 in
theorem Qcx.calls (a0:Int) (r:Int) (w:World) (h:Qcx.f a0=some r) :
    Calls Tryd.prog 202 #[.int .u64 a0] w fun e w'=>e=.returned (.int .i64 r)∧Drawn0 w w':=by
  (have H:(some (Go.bits .and .i64 (wrap64 (IntKind.u64.wrap ((IntKind.u64.wrap ((IntKind.u64.wrap ((Go.bits .and .u64 (IntKind.u64.wrap (((IntKind.u64.wrap ((Go.bits .and .u64 ((IntKind.u64.wrap ((Go.bits .and .u64 (a0/2) 6148914691236517205)+(Go.bits .and .u64 a0 6148914691236517205)))/4) 3689348814741910323)+(Go.bits .and .u64 (IntKind.u64.wrap ((Go.bits .and .u64 (a0/2) 6148914691236517205)+(Go.bits .and .u64 a0 6148914691236517205))) 3689348814741910323)))/16)+(IntKind.u64.wrap ((Go.bits .and .u64 ((IntKind.u64.wrap ((Go.bits .and .u64 (a0/2) 6148914691236517205)+(Go.bits .and .u64 a0 6148914691236517205)))/4) 3689348814741910323)+(Go.bits .and .u64 (IntKind.u64.wrap ((Go.bits .and .u64 (a0/2) 6148914691236517205)+(Go.bits .and .u64 a0 6148914691236517205))) 3689348814741910323))))) 1085102592571150095)+((Go.bits .and .u64 (IntKind.u64.wrap (((IntKind.u64.wrap ((Go.bits .and .u64 ((IntKind.u64.wrap ((Go.bits .and .u64 (a0/2) 6148914691236517205)+(Go.bits .and .u64 a0 6148914691236517205)))/4) 3689348814741910323)+(Go.bits .and .u64 (IntKind.u64.wrap ((Go.bits .and .u64 (a0/2) 6148914691236517205)+(Go.bits .and .u64 a0 6148914691236517205))) 3689348814741910323)))/16)+(IntKind.u64.wrap ((Go.bits .and .u64 ((IntKind.u64.wrap ((Go.bits .and .u64 (a0/2) 6148914691236517205)+(Go.bits .and .u64 a0 6148914691236517205)))/4) 3689348814741910323)+(Go.bits .and .u64 (IntKind.u64.wrap ((Go.bits .and .u64 (a0/2) 6148914691236517205)+(Go.bits .and .u64 a0 6148914691236517205))) 3689348814741910323))))) 1085102592571150095)/256)))+((IntKind.u64.wrap ((Go.bits .and .u64 (IntKind.u64.wrap (((IntKind.u64.wrap ((Go.bits .and .u64 ((IntKind.u64.wrap ((Go.bits .and .u64 (a0/2) 6148914691236517205)+(Go.bits .and .u64 a0 6148914691236517205)))/4) 3689348814741910323)+(Go.bits .and .u64 (IntKind.u64.wrap ((Go.bits .and .u64 (a0/2) 6148914691236517205)+(Go.bits .and .u64 a0 6148914691236517205))) 3689348814741910323)))/16)+(IntKind.u64.wrap ((Go.bits .and .u64 ((IntKind.u64.wrap ((Go.bits .and .u64 (a0/2) 6148914691236517205)+(Go.bits .and .u64 a0 6148914691236517205)))/4) 3689348814741910323)+(Go.bits .and .u64 (IntKind.u64.wrap ((Go.bits .and .u64 (a0/2) 6148914691236517205)+(Go.bits .and .u64 a0 6148914691236517205))) 3689348814741910323))))) 1085102592571150095)+((Go.bits .and .u64 (IntKind.u64.wrap (((IntKind.u64.wrap ((Go.bits .and .u64 ((IntKind.u64.wrap ((Go.bits .and .u64 (a0/2) 6148914691236517205)+(Go.bits .and .u64 a0 6148914691236517205)))/4) 3689348814741910323)+(Go.bits .and .u64 (IntKind.u64.wrap ((Go.bits .and .u64 (a0/2) 6148914691236517205)+(Go.bits .and .u64 a0 6148914691236517205))) 3689348814741910323)))/16)+(IntKind.u64.wrap ((Go.bits .and .u64 ((IntKind.u64.wrap ((Go.bits .and .u64 (a0/2) 6148914691236517205)+(Go.bits .and .u64 a0 6148914691236517205)))/4) 3689348814741910323)+(Go.bits .and .u64 (IntKind.u64.wrap ((Go.bits .and .u64 (a0/2) 6148914691236517205)+(Go.bits .and .u64 a0 6148914691236517205))) 3689348814741910323))))) 1085102592571150095)/256)))/65536)))+((IntKind.u64.wrap ((IntKind.u64.wrap ((Go.bits .and .u64 (IntKind.u64.wrap (((IntKind.u64.wrap ((Go.bits .and .u64 ((IntKind.u64.wrap ((Go.bits .and .u64 (a0/2) 6148914691236517205)+(Go.bits .and .u64 a0 6148914691236517205)))/4) 3689348814741910323)+(Go.bits .and .u64 (IntKind.u64.wrap ((Go.bits .and .u64 (a0/2) 6148914691236517205)+(Go.bits .and .u64 a0 6148914691236517205))) 3689348814741910323)))/16)+(IntKind.u64.wrap ((Go.bits .and .u64 ((IntKind.u64.wrap ((Go.bits .and .u64 (a0/2) 6148914691236517205)+(Go.bits .and .u64 a0 6148914691236517205)))/4) 3689348814741910323)+(Go.bits .and .u64 (IntKind.u64.wrap ((Go.bits .and .u64 (a0/2) 6148914691236517205)+(Go.bits .and .u64 a0 6148914691236517205))) 3689348814741910323))))) 1085102592571150095)+((Go.bits .and .u64 (IntKind.u64.wrap (((IntKind.u64.wrap ((Go.bits .and .u64 ((IntKind.u64.wrap ((Go.bits .and .u64 (a0/2) 6148914691236517205)+(Go.bits .and .u64 a0 6148914691236517205)))/4) 3689348814741910323)+(Go.bits .and .u64 (IntKind.u64.wrap ((Go.bits .and .u64 (a0/2) 6148914691236517205)+(Go.bits .and .u64 a0 6148914691236517205))) 3689348814741910323)))/16)+(IntKind.u64.wrap ((Go.bits .and .u64 ((IntKind.u64.wrap ((Go.bits .and .u64 (a0/2) 6148914691236517205)+(Go.bits .and .u64 a0 6148914691236517205)))/4) 3689348814741910323)+(Go.bits .and .u64 (IntKind.u64.wrap ((Go.bits .and .u64 (a0/2) 6148914691236517205)+(Go.bits .and .u64 a0 6148914691236517205))) 3689348814741910323))))) 1085102592571150095)/256)))+((IntKind.u64.wrap ((Go.bits .and .u64 (IntKind.u64.wrap (((IntKind.u64.wrap ((Go.bits .and .u64 ((IntKind.u64.wrap ((Go.bits .and .u64 (a0/2) 6148914691236517205)+(Go.bits .and .u64 a0 6148914691236517205)))/4) 3689348814741910323)+(Go.bits .and .u64 (IntKind.u64.wrap ((Go.bits .and .u64 (a0/2) 6148914691236517205)+(Go.bits .and .u64 a0 6148914691236517205))) 3689348814741910323)))/16)+(IntKind.u64.wrap ((Go.bits .and .u64 ((IntKind.u64.wrap ((Go.bits .and .u64 (a0/2) 6148914691236517205)+(Go.bits .and .u64 a0 6148914691236517205)))/4) 3689348814741910323)+(Go.bits .and .u64 (IntKind.u64.wrap ((Go.bits .and .u64 (a0/2) 6148914691236517205)+(Go.bits .and .u64 a0 6148914691236517205))) 3689348814741910323))))) 1085102592571150095)+((Go.bits .and .u64 (IntKind.u64.wrap (((IntKind.u64.wrap ((Go.bits .and .u64 ((IntKind.u64.wrap ((Go.bits .and .u64 (a0/2) 6148914691236517205)+(Go.bits .and .u64 a0 6148914691236517205)))/4) 3689348814741910323)+(Go.bits .and .u64 (IntKind.u64.wrap ((Go.bits .and .u64 (a0/2) 6148914691236517205)+(Go.bits .and .u64 a0 6148914691236517205))) 3689348814741910323)))/16)+(IntKind.u64.wrap ((Go.bits .and .u64 ((IntKind.u64.wrap ((Go.bits .and .u64 (a0/2) 6148914691236517205)+(Go.bits .and .u64 a0 6148914691236517205)))/4) 3689348814741910323)+(Go.bits .and .u64 (IntKind.u64.wrap ((Go.bits .and .u64 (a0/2) 6148914691236517205)+(Go.bits .and .u64 a0 6148914691236517205))) 3689348814741910323))))) 1085102592571150095)/256)))/65536)))/4294967296)))) 127))=some r:=h);clear h;obtain rfl:=Option.some.inj H;(go_enter Tryd.func202,Tryd.ntmps202);go_wp2;go_ret;(exact⟨by first|rfl|(simp;done)|(simp[*];done),by repeat(first|exact Drawn0.refl _|apply Drawn0.step)⟩)
def Qdb.f (a0:Int):Option (Int):=(Qcx.f (IntKind.u64.wrap (a0))).bind fun a=>(some a)
set_option maxHeartbeats 8000000 in
set_option maxRecDepth 100000 in
theorem Qdb.calls (a0:Int) (r:Int) (w:World) (h:Qdb.f a0=some r) :
    Calls Tryd.prog 174 #[.int .i64 a0] w fun e w'=>e=.returned (.int .i64 r)∧Drawn0 w w':=by
  (have H:((Qcx.f (IntKind.u64.wrap (a0))).bind fun a=>(some a))=some r:=h);clear h;replace H:=Yq H;obtain⟨a,A2,H⟩:=H;obtain rfl:=Option.some.inj H;(go_enter Tryd.func174,Tryd.ntmps174);(go_wp2_with(first|(refine Y5 202 (some 5) Tryd.func202 #[.int .u64 (IntKind.u64.wrap (a0))] ?_;(with_reducible refine(Qcx.calls (IntKind.u64.wrap (a0)) a _ A2.out).mono ?_);rintro e w' ⟨rfl,⟨nd,rfl⟩⟩;refine⟨_,rfl,?_⟩)));go_ret;(exact⟨by first|rfl|(simp;done)|(simp[*];done),by repeat(first|exact Drawn0.refl _|apply Drawn0.step)⟩)
def Qbp.f (l0:List (List Int)):Option (List Int):=if 1≤l0.flatten.length then(if l0.flatten.length≤1000000 then(if l0.length≤1000000 then some l0.flatten else none)else none)else none
theorem Qbp.sum (S L:Nat) (h:S+L≤1000000):wrap64 ((S:Int)+(L:Int))=((S+L:Nat):Int)∧IntKind.i64.wrap ((S:Int)+(L:Int))=((S+L:Nat):Int)∧decide (((S+L:Nat):Int)<0)=false∧decide ((S:Int)+(L:Int)<0)=false:=by
  refine⟨?_,?_,decide_eq_false (by omega),decide_eq_false (by omega)⟩
  · unfold wrap64
    omega
  · rw[IntKind.wrap_i64]
    omega
set_option maxHeartbeats 4000000 in
theorem Qbp.grow (n:Nat) (n1:1≤n) (n2:n≤1000000) (w:World) :
    Calls Tryd.prog 203 #[.slice none 0 0,.int .i64 n] w fun e w'=>∃g:Value,e=.returned (g)∧Kd.R (Kd.int .i64) 2 w' w.heap.size (fun _=>True) g ([]:List Int)∧Below w.heap.size w w':=by
  obtain⟨i0,a,f,k,b⟩:∃i0:TypeInfo,Tryd.prog.info? 2=some i0∧i0.zero=some (.int .i64 0)∧i0.size=1∧i0.bytes=8:=by
    have h:=info2
    cases hi:Tryd.prog.info? 2 with
    |none=>rw[hi]at h;cases h
    |some i0=>
      rw[hi]at h
      have h2:=Option.some.inj h
      exact⟨i0,rfl,congrArg (fun p=>p.1) h2,congrArg (fun p=>p.2.1) h2,congrArg (fun p=>p.2.2) h2⟩
  have hrun:∀W:World,(Builtin.append_ #[24,3] 24 #[.slice none 0 0,.int .i64 n]).run Tryd.prog W=.ok (.slice (some ⟨W.heap.size,0,none⟩) n (grownCap W n 0 2)) (W.drew.alloc (.cells (Builtin.zeroCells (Value.int .i64 0).cells n++Builtin.zeroCells (Value.int .i64 0).cells (grownCap W n 0 2-n)) 2)):=
    fun W=>Lib.run_append_nil_zeros W 24 3 24 2 i0 (.int .i64 0) .i64 .i64 Tryd.underlying24 Tryd.underlying3 a f n (by omega) (by omega) (by omega) (by rw[b];omega)
  have c:∀W:World,n≤grownCap W n 0 2:=fun W=>grownCap_ge W n 0 _
  have d:∀W:World,grownCap W n 0 2≤maxLen:=fun W=>grownCap_le_maxLen W n 0 _ (by unfold maxLen;omega)
  have i:=Am c
  have j:=Am d
  have HRUN:=Am hrun
  have HI:=Am a
  clear c d hrun a f k b
  have p0:¬((n:Int)<0):=by omega
  have p1:0<(n:Int):=by omega
  have q1:wrap64 ((n:Int)-0)=(n:Int):=by unfold wrap64;omega
  have d1:decide ((n:Int)<0)=false:=decide_eq_false (by omega)
  have d2:decide (0<(n:Int))=true:=decide_eq_true (by omega)
  go_enter Tryd.func203,Tryd.ntmps203
  go_wp2_with(at_builtin;refine Lib.wpList_append_run _ rfl _ _ _ _ rfl _ _ rfl rfl _ _ (HRUN.out _) ?_)
  go_ret
  refine⟨_,rfl,?_,((Below.refl _ _).drew).alloc (Nat.le_refl _) _⟩
  refine Kd.R_of_own ⟨by simp[encs],.inr ⟨w.heap.size,grownCap w n 0 2,_,rfl,Nat.le_refl _,blk_new w.drew _,Nat.zero_le _,j.out w,?_,by simp[encs]⟩⟩ (fun _ _=>trivial)
  have:=i.out w
  simp[Builtin.zeroCells,Value.cells]
  omega
set_option maxHeartbeats 8000000 in
set_option maxRecDepth 100000 in
theorem Qbp.calls (A0:Option Addr) (c0:Nat) (l0:List (List Int)) (r:List Int) (w:World) (j:Kd.C (Kd.slice 2 (Kd.int .i64)) w A0 l0.length l0) (d:l0.length≤c0) (h:Qbp.f l0=some r) :
    Calls Tryd.prog 175 #[.slice A0 l0.length c0] w fun e w'=>∃n:Value,e=.returned (n)∧Kd.R (Kd.int .i64) 2 w' w.heap.size (fun _=>True) n r∧Below w.heap.size w w':=by
  unfold Qbp.f at h
  split at h
  case isFalse=>cases h
  case isTrue n1=>
  split at h
  case isFalse=>cases h
  case isTrue n2=>
  split at h
  case isFalse=>cases h
  case isTrue n3=>
  obtain rfl:=Option.some.inj h
  clear h
  have HR:=Am j
  have HC:=Am d
  obtain⟨sz,hsz⟩:∃sz:Nat→Nat,∀k,sz k=(l0.take k).flatten.length:=⟨fun k=>(l0.take k).flatten.length,fun _=>rfl⟩
  have hstep:∀k,k<l0.length→(l0.take (k+1)).flatten=(l0.take k).flatten++rd_L2 l0 k:=fun k hk=>by
    have e:rd_L2 l0 (k:Int)=l0[k]:=by simp[rd_L2,List.getD_eq_getElem?_getD,List.getElem?_eq_getElem hk]
    rw[e,List.take_succ_eq_append_getElem hk,List.flatten_append]
    simp
  have hszs:∀k,k<l0.length→sz (k+1)=sz k+(rd_L2 l0 k).length:=fun k hk=>by
    rw[hsz,hsz,hstep k hk,List.length_append]
  have hszm:∀k,sz k≤l0.flatten.length:=fun k=>by
    rw[hsz]
    have:l0.flatten=(l0.take k).flatten++(l0.drop k).flatten:=by rw[← List.flatten_append,List.take_append_drop]
    rw[this,List.length_append]
    omega
  have hszn:sz l0.length=l0.flatten.length:=by rw[hsz,List.take_of_length_le (Nat.le_refl _)]
  have HS:=Am hszs
  have HM:=Am hszm
  have HZ:=Am hsz
  have HN:=Am hszn
  have HST:=Am hstep
  have z0:sz 0=0:=by rw[hsz];rfl
  have s:=Am z0
  obtain⟨T,hT⟩:∃T:Nat,l0.flatten.length=T:=⟨_,rfl⟩
  have HT:=Am hT
  rw[hT]at n1 n2
  clear j d hsz hstep hszs hszm hszn z0 hT
  have HGR:=fun W=>Qbp.grow T n1 n2 W
  go_enter Tryd.func175,Tryd.ntmps175
  go_wp2
  go_loopg[3,5,11] l0.length (fun gg s3 _ v wr=>∃kk:Nat,kk≤l0.length∧l0.length-kk≤gg∧s3=.int .i64 (sz kk:Nat)∧v=.int .i64 kk∧Aside0 (w=wr))
  case atStart=>exact⟨0,Nat.zero_le _,by omega,by rw[s.out];rfl,rfl,⟨rfl⟩⟩
  case round=>
    obtain⟨kk,hkk,hg,rfl,rfl,⟨rfl⟩⟩:=hrel
    by_cases hlt:kk<l0.length
    · have hltz:(kk:Int)<(l0.length:Int):=by omega
      obtain⟨ad,A1,c1,ea,hcell,_,_⟩:=at_L2 HR.out kk (by omega) (by omega)
      cases ea
      rw[Int.toNat_natCast]at hcell
      have hs:=HS.out kk hlt
      have hm:=HM.out (kk+1)
      have hT:=HT.out
      obtain⟨L,hL⟩:∃L:Nat,(rd_L2 l0 kk).length=L:=⟨_,rfl⟩
      rw[hL]at hcell hs
      have c:sz kk+L≤1000000:=by omega
      obtain⟨hw,t,hn,a0⟩:=Qbp.sum (sz kk) L c
      have HSK:=Am hs
      clear hs hm hT hL c
      generalize sz kk=S at *
      obtain⟨Z,hZ⟩:∃Z:Int,((S+L:Nat):Int)=Z:=⟨_,rfl⟩
      rw[hZ]at hw t hn
      have HZZ:=Am hZ
      clear hZ
      go_wp2
      go_roundg(l0.length-(kk+1))
      case measure=>omega
      case rel=>exact⟨kk+1,by omega,by omega,by rw[HSK.out,HZZ.out],by go_num,⟨rfl⟩⟩
    · have hltz:¬(kk:Int)<(l0.length:Int):=by omega
      have hk:kk=l0.length:=by omega
      have hsT:sz kk=T:=by rw[hk,HN.out,HT.out]
      rw[hsT]
      have HK:=Am hk
      clear hk hsT
      go_wp2_with(go_at_call 203;refine(HGR _).mono ?_;rintro e w2 ⟨v0,rfl,hR,hb⟩;have HO:=Am hR;have HB:=Am hb;clear hR hb)
      go_loopg[6,8,27] l0.length (fun gg s6 _ x wr=>∃(kk:Nat) (ys:List Int),kk≤l0.length∧l0.length-kk≤gg∧x=.int .i64 kk∧Aside0 (ys=(l0.take kk).flatten)∧Aside0 (Kd.R (Kd.int .i64) 2 wr w.heap.size (fun _=>True) s6 ys)∧Aside0 (Below w.heap.size w wr))
      case atStart=>exact⟨0,[],Nat.zero_le _,by omega,rfl,⟨by simp⟩,HO,HB⟩
      case round=>
        clear HO HB
        obtain⟨kk,ys,hkk,hg,rfl,HY,HO,HB⟩:=hrel
        obtain⟨Ao,co,eo⟩:=Kd.R_slice HO.out
        subst eo
        by_cases hlt:kk<l0.length
        · have hltz:(kk:Int)<(l0.length:Int):=by omega
          obtain⟨ad,A1,c1,ea,hcell,i,g⟩:=at_L2 (Kd.C_below HR.out HB.out) kk (by omega) (by omega)
          cases ea
          rw[Int.toNat_natCast]at hcell
          have hst:=HST.out kk hlt
          have hm:=HM.out (kk+1)
          rw[HZ.out,hst,List.length_append,← HY.out]at hm
          have hT:=HT.out
          have hlm:ys.length+(rd_L2 l0 kk).length≤1000000:=by omega
          have o:=Am hst
          have p:=Am g
          have z:=Am i
          have HLM:=Am hlm
          clear hst hm hT g i hlm
          go_wp2_with((with_reducible refine gate_builtin (b:=.append) (xs:=#[.tmp 31,.tmp 32]) rfl ?_);at_builtin;refine Kd.R_append_rows (Kd.int .i64) (w0:=w) w.heap.size rfl (.tmp 31) (.tmp 32) 24 2 (.int .i64 0) 8 rfl Tryd.underlying24 info2 rfl (by decide) (by omega) _ ys (rd_L2 l0 kk) _ _ _ (fun _=>True) (fun _=>False) rfl rfl ?aO ?aR (fun _ _ h=>h) (fun _ h=>h.elim) ?aF ?aB ?aS ?aL ?_;(case aR=>exact p.out);(case aB=>exact HB.out);(case aF=>exact(fun _ _=>trivial));(case aO=>exact HO.out);(case aS=>exact(below_size HB.out));(case aL=>have:=HLM.out;simp;omega);intro y w5 ho hb hg hat;have l:=Am (hb);have m:=Am (ho);clear HB;clear HO;have HB:=l;have a:=m;clear l m;clear ho hb hg hat)
          go_roundg(l0.length-(kk+1))
          case measure=>omega
          case rel=>exact⟨kk+1,ys++rd_L2 l0 kk,by omega,by omega,by go_num,⟨by rw[o.out,HY.out]⟩,a,HB⟩
        · have hltz:¬(kk:Int)<(l0.length:Int):=by omega
          have hk:kk=l0.length:=by omega
          have q:=Am hk
          clear hk
          go_wp2
          go_ret
          refine⟨_,rfl,?_,HB.out⟩
          have e:ys=l0.flatten:=by rw[HY.out,q.out,List.take_of_length_le (Nat.le_refl _)]
          rw[← e]
          exact HO.out
def Qaq.l0:Nat→Int→List Int→Int→Int→Option (Int)
  |0,_,_,_,_=>none
  |k+1,x3,b,c,a=>if a<c then(if 0≤a then(if a<(b.length:Int)then((Qdb.f (rd b a)).bind fun d=>(if d=x3 then(Qaq.l0 k x3 b c (wrap64 (a+1)))else(some (-1))))else(none))else(none))else(some x3)
def Qaq.f (k:Nat) (d:Int) (a:List Int):Option (Int):=if 0<(a.length:Int)then((Qdb.f (rd a 0)).bind fun e=>((Qbe.f k d a).bind fun c=>((Qbp.f (([a,c.2]:List (List Int)))).bind fun b=>(Qaq.l0 k e b (b.length:Int) 0))))else(none)
def Qaq.T2:Bool × List (List Nat × List Nat):=(true,[([],[]),([0],[0]),([],[]),([2],[2]),([3],[3]),([1,4],[1,4]),([5,3],[5]),([6],[6]),([],[])])
def Qaq.B2:List Nat:=[0,1,0,4,12,31,63,127,0]
theorem Qaq.tab2:rtab .any (opsOf Tryd.f116 2)=Qaq.T2:=by kernel_rfl
theorem Qaq.bits2:waitsOk Qaq.T2.2 Qaq.B2=true:=by kernel_rfl
set_option maxHeartbeats 8000000 in
set_option maxRecDepth 100000 in
theorem Qaq.calls (k:Nat) (q:Int) (l:Nat→Prop) (a4:Option Addr) (m:Nat) (b:List Int) (r:Int) (w:World) (f2:Kd.V (Kd.int .i64) 2 w w.heap.size (fun k_=>l k_) (.slice a4 b.length m) b) (h:Qaq.f k q b=some r) :
    Calls Tryd.prog 116 #[.agg #[.int .i64 q,.slice a4 b.length m]] w fun e w'=>e=.returned (.int .i64 r)∧Below w.heap.size w w':=by
  (have h0:=Tryd.underlying43);(have g8:∀(a_:Int) (A_:Option Addr) (n_ c_:Nat) (W_:World),(Instr.field 43 (.agg #[.int .i64 a_,.slice A_ n_ c_]) 1).run Tryd.prog W_=.ok (.slice A_ n_ c_) W_:=fun _ _ _ _ _=>by kernel_rfl);(have c:=Am (show Kd.V (Kd.int .i64) 2 w w.heap.size (fun k_=>(l k_∨w.heap.size≤k_)) (.slice a4 b.length m) b from Kd.V_mono f2 (fun k_ hk=>.inl hk)));have HB:=Am (Below.refl w.heap.size w);(have H:(if 0<(b.length:Int)then((Qdb.f (rd b 0)).bind fun a9=>((Qbe.f k q b).bind fun e8=>((Qbp.f (([b,e8.2]:List (List Int)))).bind fun j=>(Qaq.l0 k a9 j (j.length:Int) 0))))else(none))=some r:=h);clear h;replace H:=Yn H;obtain⟨c2,H⟩:=H;have f7:decide (0<(b.length:Int))=true:=decide_eq_true c2;(have f8:decide (0<b.length)=true:=decide_eq_true (by omega));clear c2;replace H:=Yq H;obtain⟨a9,A3,H⟩:=H;replace H:=Yq H;obtain⟨⟨g1,z⟩,A4,H⟩:=H;(try dsimp only at H);(obtain⟨e6,a6⟩:=Ys (([b,z]:List (List Int))));rw[← a6.out]at H;replace H:=Yq H;obtain⟨j,A5,H⟩:=H;have H':=Am H;clear H;(go_enter Tryd.func116,Tryd.ntmps116);(try go_wp2_with(first|(refine Y4 1 #[.int .i64 q,.slice a4 b.length m] 43 ?_;intro d hg w6 hbox hb;replace c:=Am (Kd.V_below (Kd.V_elderB (by(with_reducible repeat(first|apply Kd.V_alloc|apply Kd.V_drewN|apply Kd.V_drew));exact c.out) d (Nat.le_of_eq hg.symm)) hb);have a:=Am (hbox);have g5:=Yge HB hg;have g4:=Yge HB hg;replace HB:=Zs hb;clear hb hbox hg;obtain⟨d7,d8,e1,e2⟩:=Y2 a;have a7:0≤(0:Int):=(by omega);have a8:0<(b.length:Int):=Ym;obtain⟨p,g0,y⟩:=Kd.at_int (Kd.V_reads' c.out).2.2 0 a7 a8;cases g0;have g9:(0<b.length)=True:=eq_true (by omega);(try rw[show((0:Int)).toNat=0 from rfl]at y);(try rw[Addr.add_zero']at y);replace a7:=eq_true a7;replace a8:=eq_true a8)|(refine Y5 174 (some 10) Tryd.func174 #[.int .i64 (rd b 0)] ?_;(with_reducible refine(Qdb.calls (rd b 0) a9 _ A3.out).mono ?_);rintro e w' ⟨rfl,⟨nd,rfl⟩⟩;refine⟨_,rfl,?_⟩)));(try(rw[drewN_self w6];generalize hq_:World.drewN w6 _=w6;have b5:Aside0 (Kd.V (Kd.int .i64) 2 w6 w.heap.size (fun k_=>(l k_∨w.heap.size≤k_)∧k_≠d) (.slice (some p) b.length m) b):=⟨by rw[← hq_];exact(by(with_reducible repeat(first|apply Kd.V_alloc|apply Kd.V_drewN|apply Kd.V_drew));exact c.out)⟩;have b6:Aside0 (w6.heap[d]? =some (.cells #[.int .i64 q,.slice (some p) b.length m] 43 (0,0))):=⟨by rw[← hq_];exact(Ye a)⟩;have b7:Aside0 (Below w.heap.size w w6):=⟨by rw[← hq_];exact(Ya)⟩;clear c a HB hq_;have c:=b5;have a:=b6;have HB:=b7;clear b5 b6 b7));(try have d9:w6.cell? ⟨d,0,none⟩=some (.int .i64 q):=(blk_cell a.out 0).trans rfl);(try have e0:w6.cell? ⟨d,1,none⟩=some (.slice (some p) b.length m):=(blk_cell a.out 1).trans rfl);(try have e3:=blk_frozen a.out 0);(try have e4:=blk_frozen a.out 1);replace c:=Am (Kd.V_drew c.out);replace a:=Am (blk_drew a.out);replace HB:=Am (below_drew1 HB.out);(refine start_ (n:=9) (S:=fun w'=>w'.cell? ⟨d,0,none⟩=some (.int .i64 q)∧w'.cell? ⟨d,1,none⟩=some (.slice (some p) b.length m)) (ds:=[]) #[false,false,false,false,false,false,false,false,false] (by kernel_rfl) rfl rfl ⟨(blk_cell a.out 0).trans rfl,(blk_cell a.out 1).trans rfl⟩ (fun hHeld=>?_);refine with_tabW Qaq.tab2 Qaq.bits2 (fun HT_ HW_=>?_));(generalize w6.drew=w9 at c a HB hHeld ⊢);(refine Y6 0 (some 11) HT_ ?_);(refine Y6 8 (some 19) HT_ ?_);(refine Y7 1 (some 12) HT_ HW_ hHeld ?_);(refine Y7 2 (some 13) HT_ HW_ hHeld ?_);(refine Y8 3 (some 14) HT_ (fun K hK=>?_));(refine goes_ Tryd.func103 (by kernel_rfl) rfl #[.agg #[.int .i64 q,.slice (some p) b.length m]] (by rfl) rfl rfl Yj ?_);(with_reducible refine(Qbe.calls k q _ _ b g1 z _ ?side1 ?side2 A4.out).mono ?_);(case side1=>exact Yg ((Kd.V_reads' c.out).2.2));(case side2=>exact(Kd.V_reads' c.out).2.1);rintro e g3 ⟨h2,rfl,a2,hb⟩;(refine⟨_,rfl,?_⟩);(replace c:=Am (Kd.V_elder' (by(with_reducible repeat(first|apply Kd.V_alloc|apply Kd.V_drewN|apply Kd.V_drew));exact c.out) (Kd.R_base a2) hb));(have a3:=Am (Kd.R_lower (Kd.R_newM (M:=fun k_=>(w.heap.size≤k_)) a2 (below_size (Ya)) (fun k_ h_=>h_)) (below_size (Ya))));replace a:=Zb a hb;replace HB:=Zs hb;clear hb a2;obtain⟨d0,d2,d4⟩:=Kd.R_slice a3.out;(first|subst d4|(injection d4 with a0 b2 a1;have b3:=a0.symm;have b4:=a1.symm;clear a0 b2 a1;subst b3;subst b4));(refine hK.out _ _ ⟨(blk_cell a.out 0).trans rfl,(blk_cell a.out 1).trans rfl⟩ (fun hHeld=>?_));clear hK K;(refine Ynorm (some 14) ?_);(refine Y6 4 (some 15) HT_ ?_);(refine Y8 5 (some 16) HT_ (fun K hK=>?_));(refine Kd.N_lit_step (Kd.slice 2 (Kd.int .i64)) _ 24 ?hg (N':=16) ?hd (xs:=([b,z]:List (List Int))) (inner:=[.slice (some p) b.length m,.slice d0 z.length d2]) (ok:=(fun k_=>(l k_∨w.heap.size≤k_)∧k_≠d)) (okp:=(fun k_=>(l k_∨w.heap.size≤k_)∧k_≠d)) ?hr ?hp (fun _ hk=>hk) ((show ∀k_,g3.heap.size≤k_→(fun k_=>(l k_∨w.heap.size≤k_)∧k_≠d) k_ from fun k_ hk=>⟨(.inr (Nat.le_trans (below_size (Ya)) hk)),Kd.freshB (g:=d) (o:=.cells #[.int .i64 q,.slice (some p) b.length m] 43 (0,0)) (Ye a) k_ hk⟩) _ (Nat.le_refl _)) (Below.refl _ _) (Nat.le_refl _) (by simp) ?_;(case hd=>rfl);(case hg=>rfl);(case hr=>first|(go_simp;done)|(go_simp;rfl));(case hp=>exact(Reps.one (show Kd.FK (Kd.slice 2 (Kd.int .i64)) _ _ b [.slice (some p) b.length m] from(Kd.FK_slice_mk (Kd.V_reads' (Kd.V_mono (ok':=(fun k_=>(l k_∨w.heap.size≤k_)∧k_≠d)) (c.out) (fun k_ hk=>⟨hk.1.1,hk.1.2⟩))).2.1 (Kd.V_F (Kd.V_mono (ok':=(fun k_=>(l k_∨w.heap.size≤k_)∧k_≠d)) (c.out) (fun k_ hk=>⟨hk.1.1,hk.1.2⟩))))) (Reps.one (show Kd.FK (Kd.slice 2 (Kd.int .i64)) _ _ z [.slice d0 z.length d2] from(Kd.FK_slice_mk (Kd.R_reads' (Kd.R_mono (ok':=(fun k_=>(l k_∨w.heap.size≤k_)∧k_≠d)) (Kd.R_types (a3.out) a.out (by decide)) (fun k_ hk=>⟨(.inr (hk.1.1)),hk.2⟩))).2.1 (Kd.R_F (Kd.R_mono (ok':=(fun k_=>(l k_∨w.heap.size≤k_)∧k_≠d)) (Kd.R_types (a3.out) a.out (by decide)) (fun k_ hk=>⟨(.inr (hk.1.1)),hk.2⟩))))) (Reps.none _ _)))));intro h3 h5 x hb hg_ hnew_;clear hg_ hnew_;(first|rw[← a6.out]at x|(simp only[Int.reduceToNat]at x;rw[← a6.out]at x));(have b5:=Am (Kd.V_elder' (by(with_reducible repeat(first|apply Kd.V_alloc|apply Kd.V_drewN|apply Kd.V_drew));exact c.out) (Kd.N_base x) hb));(have b6:=Am (Kd.N_lower x (below_size (Ya))));have b7:=Zb a hb;have f5:=Zs hb;clear c;clear a;clear HB;clear a3;have c:=b5;have v:=b6;have a:=b7;have HB:=f5;clear b5 b6 b7 f5;clear hb x;obtain⟨f6,f9,d5⟩:=Kd.N_slice v.out;(first|subst d5|(injection d5 with a0 b2 a1;have b3:=a0.symm;have b4:=a1.symm;clear a0 b2 a1;subst b3;subst b4));(refine hK.out _ _ ⟨(blk_cell a.out 0).trans rfl,(blk_cell a.out 1).trans rfl⟩ (fun hHeld=>?_));clear hK K;(refine Ynorm (some 16) ?_);(refine Y8 6 (some 17) HT_ (fun K hK=>?_));(refine goes_ Tryd.func175 (by kernel_rfl) rfl #[.slice f6 e6.length f9] (by rfl) rfl rfl Yj ?_);(with_reducible refine(Qbp.calls _ _ e6 j _ ?side1 ?side2 A5.out).mono ?_);(case side1=>exact Yg ((Kd.N_reads' v.out).2.2));(case side2=>exact(Kd.N_reads' v.out).2.1);rintro e h6 ⟨h4,rfl,a2,hb⟩;(refine⟨_,rfl,?_⟩);(replace c:=Am (Kd.V_elder' (by(with_reducible repeat(first|apply Kd.V_alloc|apply Kd.V_drewN|apply Kd.V_drew));exact c.out) (Kd.R_base a2) hb));(replace v:=Am (Kd.N_elder' (by(with_reducible repeat(first|apply Kd.N_alloc|apply Kd.N_drewN|apply Kd.N_drew));exact v.out) (Kd.R_base a2) hb));(have b9:=Am (Kd.R_lower (Kd.R_newM (M:=fun k_=>(w.heap.size≤k_)) a2 (below_size (Ya)) (fun k_ h_=>h_)) (below_size (Ya))));replace a:=Zb a hb;replace HB:=Zs hb;clear hb a2;obtain⟨d1,d3,d6⟩:=Kd.R_slice b9.out;(first|subst d6|(injection d6 with a0 b2 a1;have b3:=a0.symm;have b4:=a1.symm;clear a0 b2 a1;subst b3;subst b4));(refine hK.out _ _ ⟨(blk_cell a.out 0).trans rfl,(blk_cell a.out 1).trans rfl⟩ (fun hHeld=>?_));clear hK K;(refine Ynorm (some 17) ?_);(refine Y6 7 (some 18) HT_ ?_);(refine done_ (done_of HT_.out (by kernel_rfl)) ?_);(try go_wp2);(go_loopg[19] k (fun kq g2 w'=>∃(i:Int),g2=.int .i64 i∧Aside0 (Qaq.l0 kq a9 j (j.length:Int) i=some r)∧Aside0 (kq≤k)∧Aside0 (Kd.R (Kd.int .i64) 2 w' w.heap.size (fun k_=>(w.heap.size≤k_)) (.slice d1 j.length d3) j)∧Aside0 (Kd.V (Kd.int .i64) 2 w' w.heap.size (fun k_=>(l k_∨w.heap.size≤k_)∧some k_≠((.slice d1 j.length d3):Value).ownBlock∧k_≠d) (.slice (some p) b.length m) b)∧Aside0 (w'.heap[d]? =some (.cells #[.int .i64 q,(.slice (some p) b.length m)] 43 (0,0)))∧Aside0 (Below w.heap.size w w')));(case atStart=>exact⟨(0),Yk,H',⟨Nat.le_refl _⟩,⟨YbR (Kd.R_mono b9.out (fun _ hk=>hk.1))⟩,⟨by(with_reducible repeat(first|apply Kd.V_alloc|apply Kd.V_drewN|apply Kd.V_drew));exact Kd.V_mono c.out (fun _ hk=>⟨hk.1.1.1.1,⟨hk.2,hk.1.1.1.2⟩⟩)⟩,⟨Ye a⟩,⟨Ya⟩⟩)
  case round=>
    (clear H');(try clear f7);(try clear f8);(try clear d7);(try clear d8);(try clear d9);(try clear e0);(try clear e1);(try clear e2);(try clear e3);(try clear e4);(try clear y);(try clear a7);(try clear a8);(obtain⟨i,rfl,HA,f4,a5,b0,a,HB⟩:=hrel)
    cases gk with
    |zero=>exact absurd HA.out (by simp[Qaq.l0])
    |succ k1=>
      (have H:=HA.out);clear HA;simp only[Qaq.l0]at H;replace H:=Yp H;(obtain⟨b1,H⟩|⟨b1,H⟩:=H);(· (have e9:=decide_eq_true b1);clear b1;replace H:=Dn2 H;obtain⟨g6,g7,H⟩:=H;replace H:=Yq H;obtain⟨e5,f3,H⟩:=H;replace H:=Yp H;(obtain⟨c0,H⟩|⟨c0,H⟩:=H);(· (obtain⟨f0,f1⟩:=Yv c0);clear c0;have H':=Am H;clear H;have s:0≤(i:Int):=Ym;have t:i<(j.length:Int):=Ym;obtain⟨e7,b8,c1⟩:=Kd.at_int (Kd.R_reads' a5.out).2.2 i s t;cases b8;replace s:=eq_true s;replace t:=eq_true t;(go_wp2_with(first|(refine Y5 174 (some 24) Tryd.func174 #[.int .i64 (rd j i)] ?_;(with_reducible refine(Qdb.calls (rd j i) e5 _ f3.out).mono ?_);rintro e w' ⟨rfl,⟨nd,rfl⟩⟩;refine⟨_,rfl,?_⟩)));(go_roundg k1);(case measure=>have:=f4.out;omega);(case rel=>exact⟨(wrap64 (i+1)),Yk,H',⟨by have:=f4.out;omega⟩,⟨YcR a5⟩,⟨by(with_reducible repeat(first|apply Kd.V_alloc|apply Kd.V_drewN|apply Kd.V_drew));exact b0.out⟩,⟨Ye a⟩,⟨Ya⟩⟩));(· (obtain⟨f0,f1⟩:=Yw c0);obtain rfl:=Option.some.inj H;have s:0≤(i:Int):=Ym;have t:i<(j.length:Int):=Ym;obtain⟨e7,b8,c1⟩:=Kd.at_int (Kd.R_reads' a5.out).2.2 i s t;cases b8;replace s:=eq_true s;replace t:=eq_true t;(go_wp2_with(first|(refine Y5 174 (some 24) Tryd.func174 #[.int .i64 (rd j i)] ?_;(with_reducible refine(Qdb.calls (rd j i) e5 _ f3.out).mono ?_);rintro e w' ⟨rfl,⟨nd,rfl⟩⟩;refine⟨_,rfl,?_⟩)));go_ret;(exact⟨Yl,Ya⟩)))
      · have e9:=decide_eq_false b1
        clear b1;obtain rfl:=Option.some.inj H;go_wp2;go_ret;(exact⟨Yl,Ya⟩)
def Qcn.f (k:Nat) (a:Int) (b:List Int):Option (Int × Int):=(Qaf.f a b).bind fun d=>(if d=true then((Qaq.f k a b).bind fun c=>(if c<0 then(some (0,5))else(some (c,0))))else(some (0,1)))
set_option maxHeartbeats 8000000 in
set_option maxRecDepth 100000 in
theorem Qcn.calls (k:Nat) (c:Int) (d:Option Addr) (g:Nat) (b:List Int) (r1:Int) (r2:Int) (w:World) (r:Kd.C (Kd.int .i64) w d b.length b) (q:b.length≤g) (h:Qcn.f k c b=some (r1,r2)) :
    Calls Tryd.prog 48 #[.agg #[.int .i64 c,.slice d b.length g]] w fun e w'=>e=.returned (.tuple #[.int .i64 r1,.int .i64 r2])∧Below w.heap.size w w':=by
  (have b5:=Tryd.underlying43);have j:=Am r;have i:=Am q;clear r q;have HB:=Am (Below.refl w.heap.size w);(have H:((Qaf.f c b).bind fun m=>(if m=true then((Qaq.f k c b).bind fun l=>(if l<0 then(some (0,5))else(some (l,0))))else(some (0,1))))=some (r1,r2):=h);clear h;replace H:=Yq H;obtain⟨m,A2,H⟩:=H;(by_cases c3:m=true);(· subst c3;replace H:=Ybt H;replace H:=Yq H;obtain⟨l,A4,H⟩:=H;replace H:=Yp H;(obtain⟨c5,H⟩|⟨c5,H⟩:=H);(· (have s:=decide_eq_true c5);clear c5;simp only[Option.some.injEq,Prod.mk.injEq]at H;obtain⟨rfl,rfl⟩:=H;(go_enter Tryd.func48,Tryd.ntmps48);(go_wp2_with(first|(refine Y4 1 #[.int .i64 c,.slice d b.length g] 43 ?_;intro p hg w6 hbox hb;have a:=Am (hbox);have o:=Yge HB hg;have n:=Yge HB hg;replace HB:=Zs hb;clear hb hbox hg;obtain⟨a7,a8,b1,b2⟩:=Y2 a)|(refine Y5 28 (some 6) Tryd.func28 #[.agg #[.int .i64 c,.slice d b.length g]] ?_;(with_reducible refine(Qaf.calls c _ _ b true _ ?side1 ?side2 A2.out).mono ?_);(case side1=>exact Yg (Kd.C_below j.out HB.out));(case side2=>exact i.out);rintro e w8 ⟨rfl,hb⟩;refine⟨_,rfl,?_⟩;replace a:=Zb a hb;replace HB:=Zs hb;clear hb;obtain⟨a9,b0,b3,b4⟩:=Y2 a)|(refine Y5 116 (some 9) Tryd.func116 #[.agg #[.int .i64 c,.slice d b.length g]] ?_;(with_reducible refine(Qaq.calls k c (fun k_=>k_<w.heap.size) _ _ b l _ ?side1 A4.out).mono ?_);(case side1=>exact Kd.V_mk i.out (Kd.F_below (Kd.C_F (Kd.heap_int .i64) j.out) (Ya)));rintro e b6 ⟨rfl,hb⟩;refine⟨_,rfl,?_⟩;replace a:=Zb a hb;replace HB:=Zs hb;clear hb)));(go_ret2);(exact⟨Yl,Ya⟩));(· (have s:=decide_eq_false c5);clear c5;simp only[Option.some.injEq,Prod.mk.injEq]at H;obtain⟨rfl,rfl⟩:=H;(go_enter Tryd.func48,Tryd.ntmps48);(go_wp2_with(first|(refine Y4 1 #[.int .i64 c,.slice d b.length g] 43 ?_;intro p hg b7 hbox hb;have a:=Am (hbox);have o:=Yge HB hg;have n:=Yge HB hg;replace HB:=Zs hb;clear hb hbox hg;obtain⟨t,v,a1,a2⟩:=Y2 a)|(refine Y5 28 (some 6) Tryd.func28 #[.agg #[.int .i64 c,.slice d b.length g]] ?_;(with_reducible refine(Qaf.calls c _ _ b true _ ?side1 ?side2 A2.out).mono ?_);(case side1=>exact Yg (Kd.C_below j.out HB.out));(case side2=>exact i.out);rintro e b8 ⟨rfl,hb⟩;refine⟨_,rfl,?_⟩;replace a:=Zb a hb;replace HB:=Zs hb;clear hb;obtain⟨x,y,a3,a4⟩:=Y2 a)|(refine Y5 116 (some 9) Tryd.func116 #[.agg #[.int .i64 c,.slice d b.length g]] ?_;(with_reducible refine(Qaq.calls k c (fun k_=>k_<w.heap.size) _ _ b l _ ?side1 A4.out).mono ?_);(case side1=>exact Kd.V_mk i.out (Kd.F_below (Kd.C_F (Kd.heap_int .i64) j.out) (Ya)));rintro e b9 ⟨rfl,hb⟩;refine⟨_,rfl,?_⟩;replace a:=Zb a hb;replace HB:=Zs hb;clear hb)));(go_ret2);(exact⟨Yl,Ya⟩)))
  · replace c3:=Bool.eq_false_iff.mpr c3
    subst c3;replace H:=Ybf H;simp only[Option.some.injEq,Prod.mk.injEq]at H;obtain⟨rfl,rfl⟩:=H;(go_enter Tryd.func48,Tryd.ntmps48);(go_wp2_with(first|(refine Y4 1 #[.int .i64 c,.slice d b.length g] 43 ?_;intro p hg c0 hbox hb;have a:=Am (hbox);have o:=Yge HB hg;have n:=Yge HB hg;replace HB:=Zs hb;clear hb hbox hg;obtain⟨z,a0,a5,a6⟩:=Y2 a)|(refine Y5 28 (some 6) Tryd.func28 #[.agg #[.int .i64 c,.slice d b.length g]] ?_;(with_reducible refine(Qaf.calls c _ _ b false _ ?side1 ?side2 A2.out).mono ?_);(case side1=>exact Yg (Kd.C_below j.out HB.out));(case side2=>exact i.out);rintro e c1 ⟨rfl,hb⟩;refine⟨_,rfl,?_⟩;replace a:=Zb a hb;replace HB:=Zs hb;clear hb)));(go_ret2);(exact⟨Yl,Ya⟩)
def Qch.l0:Nat→Int→Int→Int→Int→Int→Option (Int)
  |0,_,_,_,_,_=>none
  |k+1,x0,x5,x6,x7,x8=>if x8<x7 then(Qch.l0 k x0 (mn (wrap64 (x5+x6)) 1000000000001) (mn (wrap64 (x6*x0)) 1000000000001) x7 (wrap64 (x8+1)))else(some x5)
def Qch.f (k:Nat) (a0:Int) (a1:Int):Option (Int):=Qch.l0 k a0 0 1 a1 0
set_option maxHeartbeats 8000000 in
set_option maxRecDepth 100000 in
theorem Qch.calls (k:Nat) (a0:Int) (a1:Int) (r:Int) (w:World) (h:Qch.f k a0 a1=some r) :
    Calls Tryd.prog 118 #[.int .i64 a0,.int .i64 a1] w fun e w'=>e=.returned (.int .i64 r)∧Below w.heap.size w w':=by
  (have HB:=Am (Below.refl w.heap.size w));have H:(Qch.l0 k a0 0 1 a1 0)=some r:=h;clear h;have H':=Am H;clear H;(go_enter Tryd.func118,Tryd.ntmps118);go_wp2;(go_loopg[5,6,8] k (fun kq v5 v6 v8 w'=>∃(b:Int) (a:Int) (c:Int),v5=.int .i64 b∧v6=.int .i64 a∧v8=.int .i64 c∧Aside0 (Qch.l0 kq a0 b a a1 c=some r)∧Aside0 (kq≤k)∧Aside0 (Below w.heap.size w w')));(case atStart=>exact⟨(0),(1),(0),Yk,Yk,Yk,H',⟨Nat.le_refl _⟩,⟨Ya⟩⟩)
  case round=>
    (clear H');(obtain⟨b,a,c,rfl,rfl,rfl,HA,i,HB⟩:=hrel)
    cases gk with
    |zero=>exact absurd HA.out (by simp[Qch.l0])
    |succ k1=>
      (have H:=HA.out);clear HA;simp only[Qch.l0]at H;replace H:=Yp H;(obtain⟨c3,H⟩|⟨c3,H⟩:=H);(· (have m:=decide_eq_true c3);clear c3;(obtain⟨j,d⟩:=Yt (mn (wrap64 (b+a)) 1000000000001));(try simp only[d]at H);(have n:(if 1000000000001<(wrap64 (b+a))then 1000000000001 else(wrap64 (b+a)))=j:=d);(obtain⟨l,g⟩:=Yt (mn (wrap64 (a*a0)) 1000000000001));(try simp only[g]at H);(have o:(if 1000000000001<(wrap64 (a*a0))then 1000000000001 else(wrap64 (a*a0)))=l:=g);have H':=Am H;clear H;go_wp2;(go_roundg k1);(case measure=>have:=i.out;omega);(case rel=>exact⟨(j),(l),(wrap64 (c+1)),(by first|rfl|(simp;done)|(simp only[← d]<;>(first|rfl|simp))|(simp[*];done)),(by first|rfl|(simp;done)|(simp only[← g]<;>(first|rfl|simp))|(simp[*];done)),Yk,H',⟨by have:=i.out;omega⟩,⟨Ya⟩⟩))
      · have m:=decide_eq_false c3
        clear c3;obtain rfl:=Option.some.inj H;go_wp2;go_ret;(exact⟨Yl,Ya⟩)
def Qdi.f (a0:Int):Option (Int × Int):=if a0>1000000000000 then(some (0,3))else(some (a0,0))
set_option maxHeartbeats 8000000 in
set_option maxRecDepth 100000 in
theorem Qdi.calls (a0:Int) (r1:Int) (r2:Int) (w:World) (h:Qdi.f a0=some (r1,r2)) :
    Calls Tryd.prog 122 #[.int .i64 a0] w fun e w'=>e=.returned (.tuple #[.int .i64 r1,.int .i64 r2])∧Drawn0 w w':=by
  (have H:(if a0>1000000000000 then(some (0,3))else(some (a0,0)))=some (r1,r2):=h);clear h;replace H:=Yp H;(obtain⟨c2,H⟩|⟨c2,H⟩:=H);(· (have a:=decide_eq_true c2);clear c2;simp only[Option.some.injEq,Prod.mk.injEq]at H;obtain⟨rfl,rfl⟩:=H;(go_enter Tryd.func122,Tryd.ntmps122);go_wp2;(go_ret2);(exact⟨by first|rfl|(simp;done)|(simp[*];done),by repeat(first|exact Drawn0.refl _|apply Drawn0.step)⟩))
  · have a:=decide_eq_false c2
    clear c2;simp only[Option.some.injEq,Prod.mk.injEq]at H;obtain⟨rfl,rfl⟩:=H;(go_enter Tryd.func122,Tryd.ntmps122);go_wp2;(go_ret2);(exact⟨by first|rfl|(simp;done)|(simp[*];done),by repeat(first|exact Drawn0.refl _|apply Drawn0.step)⟩)
def Qbn.j0:Nat→Int→Int→Bool→Option (Int × Int)
  |0,_,_,_=>none
  |k+1,x0,x1,c=>if c=true then(some (0,2))else((Qch.f k x0 (wrap64 (x1+1))).bind fun b=>((Qdi.f b).bind fun a=>(some (a.1,a.2))))
def Qbn.f (k:Nat) (a0:Int) (a1:Int):Option (Int × Int):=if a0<1 then(Qbn.j0 k a0 a1 true)else(if a0>62 then(Qbn.j0 k a0 a1 true)else(if a1<1 then(Qbn.j0 k a0 a1 true)else(Qbn.j0 k a0 a1 (decide (a1>60)))))
set_option maxHeartbeats 8000000 in
set_option maxRecDepth 100000 in
theorem Qbn.calls (k:Nat) (a0:Int) (a1:Int) (r1:Int) (r2:Int) (w:World) (h:Qbn.f k a0 a1=some (r1,r2)) :
    Calls Tryd.prog 50 #[.int .i64 a0,.int .i64 a1] w fun e w'=>e=.returned (.tuple #[.int .i64 r1,.int .i64 r2])∧Below w.heap.size w w':=by
  (have HB:=Am (Below.refl w.heap.size w));(have H:(if a0<1 then(Qbn.j0 k a0 a1 true)else(if a0>62 then(Qbn.j0 k a0 a1 true)else(if a1<1 then(Qbn.j0 k a0 a1 true)else(Qbn.j0 k a0 a1 (decide (a1>60))))))=some (r1,r2):=h);clear h;have d:=Am H;clear H;(go_enter Tryd.func50,Tryd.ntmps50);(go_upto_region 1 with(fail));(go_cut[19] (fun n wc=>∃(kq:Nat) (a:Bool),n=.bool a∧Aside0 (Qbn.j0 kq a0 a1 a=some (r1,r2))∧Aside0 (kq≤k)∧Aside0 (Below w.heap.size w wc)))
  case first=>
    (have H:=d.out);clear d;replace H:=Yp H;(obtain⟨c4,H⟩|⟨c4,H⟩:=H);(· (have b:=decide_eq_true c4);clear c4;(first|rw[b]|(simp only[i64_w,i32_w];rw[b])|skip);have H':=Am H;clear H;go_wp2;(go_meet);(case rel=>exact⟨_,(true),Yk,H',⟨by first|omega|exact Nat.le_refl _⟩,⟨Ya⟩⟩));(· (have b:=decide_eq_false c4);clear c4;(first|rw[b]|(simp only[i64_w,i32_w];rw[b])|skip);replace H:=Yp H;(obtain⟨c5,H⟩|⟨c5,H⟩:=H);(· (have g:=decide_eq_true c5);clear c5;have H':=Am H;clear H;go_wp2;(go_meet);(case rel=>exact⟨_,(true),Yk,H',⟨by first|omega|exact Nat.le_refl _⟩,⟨Ya⟩⟩));(· (have g:=decide_eq_false c5);clear c5;replace H:=Yp H;(obtain⟨c6,H⟩|⟨c6,H⟩:=H);(· (have i:=decide_eq_true c6);clear c6;have H':=Am H;clear H;go_wp2;(go_meet);(case rel=>exact⟨_,(true),Yk,H',⟨by first|omega|exact Nat.le_refl _⟩,⟨Ya⟩⟩));(· (have i:=decide_eq_false c6);clear c6;have H':=Am H;clear H;go_wp2;(go_meet);(case rel=>exact⟨_,(decide (a1>60)),Yk,H',⟨by first|omega|exact Nat.le_refl _⟩,⟨Ya⟩⟩))))
  case rest=>
    clear d;(obtain⟨kq,a,rfl,HA,o,HB⟩:=hcut)
    cases kq with
    |zero=>exact absurd HA.out (by simp[Qbn.j0])
    |succ m=>
      (have H:=HA.out);clear HA;simp only[Qbn.j0]at H;(by_cases c7:a=true);(· subst c7;replace H:=Ybt H;simp only[Option.some.injEq,Prod.mk.injEq]at H;obtain⟨rfl,rfl⟩:=H;go_wp2;(go_ret2);(exact⟨Yl,Ya⟩))
      · replace c7:=Bool.eq_false_iff.mpr c7
        subst c7;replace H:=Ybf H;replace H:=Yq H;obtain⟨c,A8,H⟩:=H;replace H:=Yq H;obtain⟨⟨j,l⟩,A9,H⟩:=H;(try dsimp only at H);simp only[Option.some.injEq,Prod.mk.injEq]at H;obtain⟨rfl,rfl⟩:=H;(go_wp2_with(first|(refine Y5 118 (some 23) Tryd.func118 #[.int .i64 a0,.int .i64 (wrap64 (a1+1))] ?_;(with_reducible refine(Qch.calls m a0 (wrap64 (a1+1)) c _ A8.out).mono ?_);rintro e p ⟨rfl,hb⟩;refine⟨_,rfl,?_⟩;replace HB:=Zs hb;clear hb)|(refine Y5 122 (some 24) Tryd.func122 #[.int .i64 c] ?_;(with_reducible refine(Qdi.calls c j l _ A9.out).mono ?_);rintro e w' ⟨rfl,⟨nd,rfl⟩⟩;refine⟨_,rfl,?_⟩)));(go_ret2);(exact⟨Yl,Ya⟩)
end Go.Proofs.YtmofdldplbplbaaDoor.P
