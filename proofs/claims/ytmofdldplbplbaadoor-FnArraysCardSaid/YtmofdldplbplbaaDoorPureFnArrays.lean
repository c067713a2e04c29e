/- The pure law and what it leans on, in one text (wip/bin/bundle). -/
import Derived.Test.YtmofdldplbplbaaDoorMFA15
import Derived.Test.YtmofdldplbplbaaDoorMFA18
import Derived.Test.YtmofdldplbplbaaDoorMFA21
import Derived.Test.YtmofdldplbplbaaDoorMFA22
import Derived.Test.YtmofdldplbplbaaDoorMFA23
import Derived.Test.YtmofdldplbplbaaDoorMFA1
import Derived.Test.YtmofdldplbplbaaDoorMFA14
import Derived.Test.YtmofdldplbplbaaDoorMFA17
import Derived.Test.YtmofdldplbplbaaDoorMFA2
import Derived.Test.YtmofdldplbplbaaDoorMFA13
import Derived.Test.YtmofdldplbplbaaDoorMFA16
import Derived.Test.YtmofdldplbplbaaDoorWA
import Derived.Test.YtmofdldplbplbaaDoorWBMore
import Derived.Laws.BitsLemmas
import Derived.Lib.TrailingZeros
import Derived.Test.YtmofdldplbplbaaDoorMFA12
import Derived.Test.YtmofdldplbplbaaDoorMFA9
import Derived.Test.YtmofdldplbplbaaDoorMFA20
import Derived.Test.YtmofdldplbplbaaDoorMFA19
import Derived.Test.YtmofdldplbplbaaDoorMFA10
import Derived.Test.YtmofdldplbplbaaDoorMFA11
import Derived.Test.YtmofdldplbplbaaDoorMFA4
import Derived.Test.YtmofdldplbplbaaDoorMFA5
import Derived.Test.YtmofdldplbplbaaDoorMFA6
import Derived.Test.YtmofdldplbplbaaDoorMFA8
import Derived.Test.YtmofdldplbplbaaDoorMFA3
import Derived.Test.YtmofdldplbplbaaDoorMFA7
set_option linter.unusedVariables false
set_option linter.unusedSimpArgs false
namespace Go.Proofs.YtmofdldplbplbaaDoor.Q
open Go Go.RowKit Go.Proofs.YtmofdldplbplbaaDoorW.PrintWords Go.Proofs.YtmofdldplbplbaaDoorW.PrintMore Go.Proofs.YtmofdldplbplbaaDoorW.PrintLast Go.Proofs.YtmofdldplbplbaaDoor.P
theorem ev_k {α:Type} {g:Nat→Option α} {r:α} (h:Ev (fun k=>g (k+1)) r):Ev g r:=Ev.step (fun _=>rfl) h
theorem ev_some {α:Type} {r s:α} (h:r=s):Ev (fun _=>some r) s:=h ▸ Ev.now r
theorem ev_pos {α:Type} {c:Prop} [Decidable c] {f g:Nat→Option α} {r:α} (h:c) (H:Ev f r):Ev (fun k=>if c then f k else g k) r:=
 Ev.congr (fun _=>if_pos h) H
theorem ev_neg {α:Type} {c:Prop} [Decidable c] {f g:Nat→Option α} {r:α} (h:¬c) (H:Ev g r):Ev (fun k=>if c then f k else g k) r:=
 Ev.congr (fun _=>if_neg h) H
theorem ev_ite {α:Type} {c:Prop} [Decidable c] {f g:Nat→Option α} {r:α} (h:c→Ev f r) (h':¬c→Ev g r):Ev (fun k=>if c then f k else g k) r:=by
 by_cases hc:c
 ·exact ev_pos hc (h hc)
 ·exact ev_neg hc (h' hc)
theorem ev_of {α:Type} {o:Option α} {r:α} (h:o=some r):Ev (fun _=>o) r:=⟨0,fun _ _=>h⟩
theorem ev_bind0 {α β:Type} {o:Option α} {f:Nat→α→Option β} {a:α} {r:β} (h:o=some a) (H:Ev (fun n=>f n a) r):Ev (fun n=>o.bind (f n)) r:=
 Ev.bind (ev_of h) H
theorem ev_uniq {α:Type} {g:Nat→Option α} {a b:α} (h:Ev g a) (k:Ev g b):a=b:=by
 obtain⟨m,h⟩:=h
 obtain⟨n,k⟩:=k
 exact Option.some.inj ((h (m+n) (by omega)).symm.trans (k (m+n) (by omega)))
theorem w64 {a:Int} (h0:-9223372036854775808≤a) (h1:a<9223372036854775808):wrap64 a=a:=by
 unfold wrap64
 omega
def Says (g:Nat→Option Bool) (P:Prop):Prop:=∃b:Bool,Ev g b∧(b=true↔P)
theorem says_iff {g:Nat→Option Bool} {P R:Prop} (h:P↔R) (H:Says g R):Says g P:=by
 obtain⟨b,hb,e⟩:=H
 exact⟨b,hb,e.trans h.symm⟩
theorem says_k {g:Nat→Option Bool} {P:Prop} (H:Says (fun k=>g (k+1)) P):Says g P:=by
 obtain⟨b,hb,e⟩:=H
 exact⟨b,ev_k hb,e⟩
theorem says_pos {c:Prop} [Decidable c] {f g:Nat→Option Bool} {P:Prop} (h:c) (H:Says f P):Says (fun k=>if c then f k else g k) P:=by
 obtain⟨b,hb,e⟩:=H
 exact⟨b,ev_pos h hb,e⟩
theorem says_neg {c:Prop} [Decidable c] {f g:Nat→Option Bool} {P:Prop} (h:¬c) (H:Says g P):Says (fun k=>if c then f k else g k) P:=by
 obtain⟨b,hb,e⟩:=H
 exact⟨b,ev_neg h hb,e⟩
theorem says_true {P:Prop} (h:P):Says (fun _=>some true) P:=⟨true,Ev.now _,by simp[h]⟩
theorem says_false {P:Prop} (h:¬P):Says (fun _=>some false) P:=⟨false,Ev.now _,by simp[h]⟩
theorem says_now (b:Bool):Says (fun _=>some b) (b=true):=⟨b,Ev.now _,Iff.rfl⟩
theorem says_bind {α:Type} {g:Nat→Option α} {f:Nat→α→Option Bool} {a:α} {P:Prop} (h:Ev g a) (H:Says (fun n=>f n a) P):Says (fun n=>(g n).bind (f n)) P:=by
 obtain⟨b,hb,e⟩:=H
 exact⟨b,Ev.bind h hb,e⟩
theorem Says.yes {g:Nat→Option Bool} {P:Prop} (H:Says g P) (h:P):Ev g true:=by
 obtain⟨b,hb,e⟩:=H
 rw[e.2 h]at hb
 exact hb
theorem Says.no {g:Nat→Option Bool} {P:Prop} (H:Says g P) (h:¬P):Ev g false:=by
 obtain⟨b,hb,e⟩:=H
 cases b with
 |true=>exact absurd (e.1 rfl) h
 |false=>exact hb
def tb (x i:Int):Bool:=decide (x/2 ^ i.toNat % 2=1)
theorem wu64 {a:Int} (h0:0≤a) (h1:a<18446744073709551616):IntKind.u64.wrap a=a:=by
 simp[IntKind.wrap,IntKind.bits,IntKind.signed]
 omega
theorem w64' (a:Int):IntKind.i64.wrap a=wrap64 a:=by
 rw[IntKind.wrap_i64]
 unfold wrap64
 rfl
theorem and_one (a:Int):bits .and .i64 a 1=a % 2:=by
 have e:(BitVec.ofInt 64 a &&& BitVec.ofInt 64 1).toNat=(a % 2).toNat:=by
  rw[BitVec.toNat_and,show(BitVec.ofInt 64 1).toNat=1 from rfl,Nat.and_one_is_mod,BitVec.toNat_ofInt]
  omega
 show IntKind.i64.wrap (((BitVec.ofInt 64 a &&& BitVec.ofInt 64 1).toNat:Nat):Int)=a % 2
 rw[e,w64']
 rw[w64]<;>omega
theorem shr_at {x i:Int} (i0:0≤i) (i1:i≤63):shr .i64 x i=x/2 ^ i.toNat:=by
 unfold shr
 rw[Nat.min_eq_left (by simp[IntKind.bits];omega)]
theorem bit_at {x i:Int} (i0:0≤i) (i1:i≤63):bits .and .i64 (shr .i64 x i) 1=if tb x i then 1 else 0:=by
 rw[and_one,shr_at i0 i1]
 unfold tb
 have:=Int.emod_two_eq (x/2 ^ i.toNat)
 rcases this with h|h<;>simp[h]
theorem bit_is {x i:Int} (i0:0≤i) (i1:i≤63):(bits .and .i64 (shr .i64 x i) 1==1)=tb x i:=by
 rw[bit_at i0 i1]
 cases tb x i<;>rfl
theorem bit_eq {x y i j:Int} (i0:0≤i) (i1:i≤63) (j0:0≤j) (j1:j≤63):bits .and .i64 (shr .i64 x i) 1=bits .and .i64 (shr .i64 y j) 1↔tb x i=tb y j:=by
 rw[bit_at i0 i1,bit_at j0 j1]
 cases tb x i<;>cases tb y j<;>simp
theorem two_pow_le {n:Int} (h0:0≤n) (h1:n≤62):(1:Int)≤2 ^ n.toNat∧(2:Int) ^ n.toNat≤4611686018427387904:=by
 have e:((2:Int) ^ n.toNat)=((2 ^ n.toNat:Nat):Int):=by simp
 have a:2 ^ n.toNat≤2 ^ 62:=Nat.pow_le_pow_right (by decide) (by omega)
 have b:1≤2 ^ n.toNat:=Nat.one_le_two_pow
 rw[e]
 omega
theorem shl_one {n:Int} (h0:0≤n) (h1:n≤62):shl .i64 1 n=2 ^ n.toNat:=by
 have:=two_pow_le h0 h1
 unfold shl
 rw[Nat.min_eq_left (by simp[IntKind.bits];omega),Int.one_mul,w64',w64]<;>omega
theorem tb_nat (x i:Nat):tb (x:Int) (i:Int)=x.testBit i:=by
 unfold tb
 rw[Nat.testBit_eq_decide_div_mod_eq]
 have:((x:Int)/2 ^ i) % 2=((x/2 ^ i % 2:Nat):Int):=by simp
 rw[Int.toNat_natCast,this]
 exact decide_eq_decide.2 (by omega)
theorem tb_toNat {x i:Int} (h0:0≤x) (i0:0≤i):tb x i=x.toNat.testBit i.toNat:=by
 rw[← tb_nat,Int.toNat_of_nonneg h0,Int.toNat_of_nonneg i0]
theorem tb_high {x i n:Int} (h0:0≤x) (h1:x<2 ^ n.toNat) (n0:0≤n) (hi:n≤i):tb x i=false:=by
 rw[tb_toNat h0 (by omega)]
 refine Nat.testBit_lt_two_pow ?_
 have e:((2:Int) ^ n.toNat)=((2 ^ n.toNat:Nat):Int):=by simp
 rw[e]at h1
 have:x.toNat<2 ^ n.toNat:=by omega
 exact Nat.lt_of_lt_of_le this (Nat.pow_le_pow_right (by decide) (by omega))
theorem tb_ext {x y n:Int} (x0:0≤x) (x1:x<2 ^ n.toNat) (y0:0≤y) (y1:y<2 ^ n.toNat) (n0:0≤n) (h:∀i,0≤i→i<n→tb x i=tb y i):x=y:=by
 have:x.toNat=y.toNat:=by
  refine Nat.eq_of_testBit_eq fun i=>?_
  by_cases hi:(i:Int)<n
  ·have:=h i (by omega) hi
   rwa [tb_toNat x0 (by omega),tb_toNat y0 (by omega),Int.toNat_natCast]at this
  ·have a:=tb_high (i:=i) x0 x1 n0 (by omega)
   have b:=tb_high (i:=i) y0 y1 n0 (by omega)
   rw[tb_toNat x0 (by omega),Int.toNat_natCast]at a
   rw[tb_toNat y0 (by omega),Int.toNat_natCast]at b
   rw[a,b]
 omega
theorem and_nat (a b:Nat) (ha:a<2 ^ 63) (hb:b<2 ^ 63):bits .and .i64 a b=((a &&& b:Nat):Int):=
 (bits_nat .i64 63 (by decide) (fun n h0 h1=>by rw[w64',w64]<;>omega) a b ha hb).1
theorem or_nat (a b:Nat) (ha:a<2 ^ 63) (hb:b<2 ^ 63):bits .or .i64 a b=((a ||| b:Nat):Int):=
 (bits_nat .i64 63 (by decide) (fun n h0 h1=>by rw[w64',w64]<;>omega) a b ha hb).2
theorem uand_nat (a b:Nat) (ha:a<2 ^ 64) (hb:b<2 ^ 64):bits .and .u64 a b=((a &&& b:Nat):Int):=
 (bits_nat .u64 64 (by decide) (fun n h0 h1=>wu64 h0 (by omega)) a b ha hb).1
set_option linter.unusedVariables false in
theorem andNot_nat (a b:Nat) (ha:a<2 ^ 63) (hb:b<2 ^ 63):∃c:Nat,bits .andNot .i64 a b=(c:Int)∧c<2 ^ 63∧∀i,c.testBit i=(a.testBit i&&!b.testBit i):=by
 refine⟨(BitVec.ofInt 64 a &&& ~~~ BitVec.ofInt 64 b).toNat,?_,?_,?_⟩
 ·show IntKind.i64.wrap (((BitVec.ofInt 64 a &&& ~~~ BitVec.ofInt 64 b).toNat:Nat):Int)=_
  have:(BitVec.ofInt 64 a &&& ~~~ BitVec.ofInt 64 b).toNat<2 ^ 63:=by
   simp only[BitVec.ofInt_natCast,BitVec.toNat_and,BitVec.toNat_ofNat]
   have:(a % 2 ^ 64 &&& (~~~ BitVec.ofNat 64 b).toNat)≤a % 2 ^ 64:=Nat.and_le_left
   have:a % 2 ^ 64=a:=Nat.mod_eq_of_lt (by omega)
   omega
  rw[w64',w64]<;>omega
 ·simp only[BitVec.ofInt_natCast,BitVec.toNat_and,BitVec.toNat_ofNat]
  have:(a % 2 ^ 64 &&& (~~~ BitVec.ofNat 64 b).toNat)≤a % 2 ^ 64:=Nat.and_le_left
  have:a % 2 ^ 64=a:=Nat.mod_eq_of_lt (by omega)
  omega
 ·intro i
  simp only[BitVec.ofInt_natCast]
  rw[BitVec.testBit_toNat,BitVec.getLsbD_and,BitVec.getLsbD_not,BitVec.getLsbD_ofNat,BitVec.getLsbD_ofNat]
  by_cases hi:i<64
  ·simp[hi]
  ·simp[hi]
   intro h
   have:=Nat.testBit_lt_two_pow (Nat.lt_of_lt_of_le ha (Nat.pow_le_pow_right (by decide) (show 63≤i by omega)))
   simp[this]at h
def rows (n:Int) (l:List Int):Prop:=1≤n∧n≤62∧(l.length:Int)=n∧∀v,0≤v→v<n→0≤rd l v∧rd l v<2 ^ n.toNat
def isG (n:Int) (l:List Int):Prop:=rows n l∧(∀v,0≤v→v<n→tb (rd l v) v=false)∧∀v w,0≤v→v<n→0≤w→w<n→tb (rd l v) w=tb (rd l w) v
theorem rows.nat {n:Int} {l:List Int} (h:rows n l) {v:Int} (h0:0≤v) (h1:v<n):∃x:Nat,rd l v=(x:Int)∧x<2 ^ n.toNat∧x<2 ^ 62:=by
 obtain⟨a,b,c,d⟩:=h
 obtain⟨d0,d1⟩:=d v h0 h1
 have e:((2:Int) ^ n.toNat)=((2 ^ n.toNat:Nat):Int):=by simp
 have p:2 ^ n.toNat≤2 ^ 62:=Nat.pow_le_pow_right (by decide) (by omega)
 rw[e]at d1
 exact⟨(rd l v).toNat,by omega,by omega,by omega⟩
def Mx (n:Int) (l:List Int) (P:Int→Int→Prop):Prop:=(l.length:Int)=n∧∀v,0≤v→v<n→(0≤rd l v∧rd l v<2 ^ n.toNat)∧∀w,0≤w→w<n→(tb (rd l v) w=true↔P v w)
theorem Mx.imp {n:Int} {l:List Int} {P Q:Int→Int→Prop} (h:Mx n l P) (e:∀v w,0≤v→v<n→0≤w→w<n→(P v w↔Q v w)):Mx n l Q:=
 ⟨h.1,fun v v0 v1=>⟨(h.2 v v0 v1).1,fun w w0 w1=>((h.2 v v0 v1).2 w w0 w1).trans (e v w v0 v1 w0 w1)⟩⟩
theorem rd_ext {a b:List Int} (hl:a.length=b.length) (h:∀v:Int,0≤v→v<a.length→rd a v=rd b v):a=b:=by
 refine List.ext_getElem hl fun i h1 h2=>?_
 have:=h i (by omega) (by omega)
 simpa[rd,List.getD_eq_getElem?_getD,h1,h2] using this
theorem Mx.eq {n:Int} {a b:List Int} {P:Int→Int→Prop} (ha:Mx n a P) (hb:Mx n b P) (n0:0≤n):a=b:=by
 refine rd_ext (by have:=ha.1;have:=hb.1;omega) fun v v0 v1=>?_
 have v1:v<n:=by have:=ha.1;omega
 obtain⟨⟨a0,a1⟩,a2⟩:=ha.2 v v0 v1
 obtain⟨⟨b0,b1⟩,b2⟩:=hb.2 v v0 v1
 exact tb_ext a0 a1 b0 b1 n0 fun i i0 i1=>Bool.eq_iff_iff.2 ((a2 i i0 i1).trans (b2 i i0 i1).symm)
theorem Mx.zero (n:Int) (n0:0≤n):Mx n (List.replicate n.toNat 0) (fun _ _=>False):=by
 refine⟨by simp;omega,fun v v0 v1=>?_⟩
 have e:rd (List.replicate n.toNat 0) v=0:=by
  have:v.toNat<n.toNat:=by omega
  simp[rd,List.getD_eq_getElem?_getD,this]
 rw[e]
 have p:(0:Int)<2 ^ n.toNat:=Int.pow_pos (by decide)
 refine⟨⟨by omega,p⟩,fun w w0 w1=>?_⟩
 simp[tb]
theorem Mx.rows {n:Int} {l:List Int} {P:Int→Int→Prop} (h:Mx n l P) (n1:1≤n) (n2:n≤62):rows n l:=⟨n1,n2,h.1,fun v v0 v1=>(h.2 v v0 v1).1⟩
theorem rd_set {l:List Int} {i j:Int} (x:Int) (i0:0≤i) (i1:i<l.length) (j0:0≤j):rd (l.set i.toNat x) j=if j=i then x else rd l j:=by
 simp only[rd,List.getD_eq_getElem?_getD,List.getElem?_set]
 by_cases h:j=i
 ·subst h
  rw[if_pos rfl,if_pos rfl,if_pos (by omega)]
  rfl
 ·rw[if_neg h,if_neg (by omega)]
theorem or_one {n x j:Int} (n2:n≤62) (x0:0≤x) (x1:x<2 ^ n.toNat) (j0:0≤j) (j1:j<n):(0≤bits .or .i64 x (shl .i64 1 j)∧bits .or .i64 x (shl .i64 1 j)<2 ^ n.toNat)∧∀w,0≤w→(tb (bits .or .i64 x (shl .i64 1 j)) w=true↔tb x w=true∨w=j):=by
 have e:((2:Int) ^ n.toNat)=((2 ^ n.toNat:Nat):Int):=by simp
 have p:2 ^ n.toNat≤2 ^ 62:=Nat.pow_le_pow_right (by decide) (by omega)
 have q:2 ^ j.toNat<2 ^ n.toNat:=Nat.pow_lt_pow_right (by decide) (by omega)
 rw[e]at x1 ⊢
 obtain⟨y,rfl⟩:=Int.eq_ofNat_of_zero_le x0
 rw[shl_one j0 (by omega),show((2:Int) ^ j.toNat)=((2 ^ j.toNat:Nat):Int) by simp,or_nat y (2 ^ j.toNat) (by omega) (by omega)]
 refine⟨⟨by omega,?_⟩,fun w w0=>?_⟩
 ·have:=Nat.or_lt_two_pow (show y<2 ^ n.toNat by omega) q
  omega
 ·obtain⟨w,rfl⟩:=Int.eq_ofNat_of_zero_le w0
  rw[tb_nat,tb_nat,Nat.testBit_or,Nat.testBit_two_pow]
  simp only[Bool.or_eq_true,decide_eq_true_eq]
  refine or_congr Iff.rfl ?_
  omega
theorem Mx.or {n:Int} {l:List Int} {P:Int→Int→Prop} (h:Mx n l P) (n2:n≤62) {i j:Int} (i0:0≤i) (i1:i<n) (j0:0≤j) (j1:j<n):Mx n (l.set i.toNat (bits .or .i64 (rd l i) (shl .i64 1 j))) (fun v w=>P v w∨(v=i∧w=j)):=by
 refine⟨by simpa using h.1,fun v v0 v1=>?_⟩
 rw[rd_set _ i0 (by have:=h.1;omega) v0]
 obtain⟨⟨a0,a1⟩,a2⟩:=h.2 v v0 v1
 by_cases hv:v=i
 ·rw[if_pos hv]
  subst hv
  obtain⟨b,b2⟩:=or_one n2 a0 a1 j0 j1
  exact⟨b,fun w w0 w1=>(b2 w w0).trans (or_congr (a2 w w0 w1) (by simp))⟩
 ·rw[if_neg hv]
  exact⟨⟨a0,a1⟩,fun w w0 w1=>(a2 w w0 w1).trans (by simp[hv])⟩
def IsMax (r:List Int) (m:Int):Prop:=(∀j:Int,0≤j→j<r.length→rd r j≤m)∧∃j:Int,0≤j∧j<r.length∧m=rd r j
theorem IsMax.uniq {r:List Int} {a b:Int} (ha:IsMax r a) (hb:IsMax r b):a=b:=by
 obtain⟨a1,i,i0,i1,ia⟩:=ha
 obtain⟨b1,j,j0,j1,jb⟩:=hb
 have:=a1 j j0 j1
 have:=b1 i i0 i1
 omega
open Classical in
noncomputable def top (r:List Int):Int:=if h:∃m,IsMax r m then h.choose else 0
theorem top_eq {r:List Int} {m:Int} (h:IsMax r m):top r=m:=by
 have hex:∃m,IsMax r m:=⟨m,h⟩
 unfold top
 rw[dif_pos hex]
 exact hex.choose_spec.uniq h
theorem r_max_l0 (l:List Int) (hl:l.length≤1152921504606846976) (d:Nat):∀(m i:Int),0≤i→i≤l.length→l.length-i=d→∃r,Ev (fun k=>Qay.l0 k l m i) r∧m≤r∧(∀j:Int,i≤j→j<l.length→rd l j≤r)∧(r=m∨∃j:Int,i≤j∧j<l.length∧r=rd l j):=by
 induction d with
 |zero=>
  intro m i i0 i1 hd
  refine⟨m,ev_k ?_,by omega,fun j _ _=>by omega,.inl rfl⟩
  simp only[Qay.l0]
  exact ev_neg (by omega) (Ev.now _)
 |succ d ih=>
  intro m i i0 i1 hd
  obtain⟨r,hr,r1,r2,r3⟩:=ih (mx m (rd l i)) (i+1) (by omega) (by omega) (by omega)
  have e:m≤mx m (rd l i)∧rd l i≤mx m (rd l i)∧(mx m (rd l i)=m∨mx m (rd l i)=rd l i):=by
   unfold mx
   split<;>omega
  refine⟨r,ev_k ?_,by omega,fun j j0 j1=>if h:j=i then by rw[h];omega else r2 j (by omega) j1,?_⟩
  ·simp only[Qay.l0]
   rw[w64 (a:=i+1) (by omega) (by omega)]
   exact ev_pos (by omega) (ev_pos i0 hr)
  ·rcases r3 with h|⟨j,j0,j1,h⟩
   ·rcases e.2.2 with e|e
    ·exact .inl (h.trans e)
    ·exact .inr ⟨i,by omega,by omega,h.trans e⟩
   ·exact .inr ⟨j,by omega,j1,h⟩
theorem r_max (l:List Int) (hl:l.length≤1152921504606846976) (h0:0<l.length):∃r,Ev (fun k=>Qay.f k l) r∧IsMax l r:=by
 obtain⟨r,hr,r1,r2,r3⟩:=r_max_l0 l hl (l.length-1) (rd l 0) 1 (by omega) (by omega) (by omega)
 refine⟨r,?_,fun j j0 j1=>if h:j=0 then by rw[h];exact r1 else r2 j (by omega) j1,?_⟩
 ·unfold Qay.f
  exact ev_neg (by omega) (ev_pos (by omega) hr)
 ·rcases r3 with h|⟨j,j0,j1,h⟩
  ·exact⟨0,by omega,by omega,h⟩
  ·exact⟨j,by omega,j1,h⟩
def Wk (n:Int) (l:List Int) (s:Int):Nat→Int→Prop
 |0,u=>u=s
 |k+1,u=>(0≤u∧u<n)∧∃w,(0≤w∧w<n)∧Wk n l s k w∧tb (rd l w) u=true
def Ds (n:Int) (l:List Int) (s:Int) (d:Nat) (u:Int):Prop:=Wk n l s d u∧∀j,j<d→¬Wk n l s j u
theorem Ds.uniq {n:Int} {l:List Int} {s u:Int} {d e:Nat} (h:Ds n l s d u) (g:Ds n l s e u):d=e:=by
 rcases Nat.lt_trichotomy d e with z|z|z
 ·exact absurd h.1 (g.2 d z)
 ·exact z
 ·exact absurd g.1 (h.2 e z)
theorem Wk.range {n:Int} {l:List Int} {s:Int} (s0:0≤s) (s1:s<n) {k:Nat} {u:Int} (h:Wk n l s k u):0≤u∧u<n:=by
 cases k with
 |zero=>cases h;exact⟨s0,s1⟩
 |succ k=>exact h.1
theorem Wk.least {n:Int} {l:List Int} {s u:Int} (k:Nat) (h:Wk n l s k u):∃d,d≤k∧Ds n l s d u:=by
 induction k using Nat.strongRecOn with
 |_ k ih=>
  by_cases hj:∃j,j<k∧Wk n l s j u
  ·obtain⟨j,hj,hw⟩:=hj
   obtain⟨d,hd,h2⟩:=ih j hj hw
   exact⟨d,by omega,h2⟩
  ·exact⟨k,Nat.le_refl _,h,fun j hj' hw=>hj ⟨j,hj',hw⟩⟩
theorem Ds.ahead {n:Int} {l:List Int} {s u:Int} {d:Nat} (h:Ds n l s (d+1) u):∃w,(0≤w∧w<n)∧Ds n l s d w∧tb (rd l w) u=true:=by
 obtain⟨⟨hu,w,hw,hk,ht⟩,hm⟩:=h
 refine⟨w,hw,⟨hk,fun j hj hwj=>hm (j+1) (by omega) ⟨hu,w,hw,hwj,ht⟩⟩,ht⟩
theorem Ds.stops {n:Int} {l:List Int} {s:Int} {d:Nat} (h:∀w,¬Ds n l s d w):∀e,d≤e→∀u,¬Ds n l s e u:=by
 intro e he
 induction e with
 |zero=>
  obtain rfl:d=0:=by omega
  exact h
 |succ e ih=>
  by_cases z:d=e+1
  ·subst z
   exact h
  ·intro u hu
   obtain⟨w,_,hw,_⟩:=hu.ahead
   exact ih (by omega) w hw
theorem Ds.next {n:Int} {l:List Int} {s u:Int} {d:Nat} (hu:0≤u∧u<n):Ds n l s (d+1) u↔(∃w,(0≤w∧w<n)∧Ds n l s d w∧tb (rd l w) u=true)∧¬∃j,j≤d∧Wk n l s j u:=by
 constructor
 ·intro h
  exact⟨h.ahead,fun⟨j,hj,hw⟩=>h.2 j (by omega) hw⟩
 ·rintro⟨⟨w,hw,hd,ht⟩,hno⟩
  exact⟨⟨hu,w,hw,hd.1,ht⟩,fun j hj hwj=>hno ⟨j,by omega,hwj⟩⟩
def DistL (n:Int) (l:List Int) (s:Int) (ds:List Int):Prop:=(ds.length:Int)=n∧∀u,0≤u→u<n→(rd ds u=-1∧∀j,¬Wk n l s j u)∨∃d:Nat,rd ds u=(d:Int)∧Ds n l s d u
theorem DistL.eq {n:Int} {l:List Int} {s:Int} {a b:List Int} (ha:DistL n l s a) (hb:DistL n l s b):a=b:=by
 refine rd_ext (by have:=ha.1;have:=hb.1;omega) fun v v0 v1=>?_
 have v1:v<n:=by have:=ha.1;omega
 rcases ha.2 v v0 v1 with⟨e,h⟩|⟨d,e,h⟩<;>rcases hb.2 v v0 v1 with⟨f,g⟩|⟨c,f,g⟩
 ·rw[e,f]
 ·exact absurd g.1 (h c)
 ·exact absurd h.1 (g d)
 ·rw[e,f,h.uniq g]
theorem Ds.zero (n:Int) (l:List Int) (s u:Int):Ds n l s 0 u↔u=s:=⟨fun h=>h.1,fun h=>⟨h,fun j hj=>by omega⟩⟩
theorem Wk.front {n:Int} {l:List Int} {s w:Int} (hs:0≤s∧s<n) (hw:0≤w∧w<n) (ht:tb (rd l s) w=true):∀(k:Nat) (u:Int),Wk n l w k u→Wk n l s (k+1) u:=by
 intro k
 induction k with
 |zero=>
  intro u hu
  cases hu
  exact⟨hw,s,hs,rfl,ht⟩
 |succ k ih=>
  rintro u ⟨hu,x,hx,hk,hx2⟩
  exact⟨hu,x,hx,ih x hk,hx2⟩
theorem Wk.back {n:Int} {l:List Int} (hg:∀v w,0≤v→v<n→0≤w→w<n→tb (rd l v) w=tb (rd l w) v) {s:Int}:∀(k:Nat) (u:Int),Wk n l s k u→Wk n l u k s:=by
 intro k
 induction k with
 |zero=>intro u hu;exact hu.symm
 |succ k ih=>
  rintro u ⟨hu,w,hw,hk,ht⟩
  exact Wk.front hu hw (by rw[hg u w hu.1 hu.2 hw.1 hw.2];exact ht) k s (ih w hk)
theorem Ds.back {n:Int} {l:List Int} (hg:∀v w,0≤v→v<n→0≤w→w<n→tb (rd l v) w=tb (rd l w) v) {s u:Int} {d:Nat} (h:Ds n l s d u):Ds n l u d s:=
 ⟨Wk.back hg d u h.1,fun j hj hw=>h.2 j hj (Wk.back hg j s hw)⟩
structure Dist (n:Int) (l:List Int) (s:Int) (r:List Int):Prop where
 len:(r.length:Int)=n
 src:∀u,0≤u→u<n→(rd r u=0↔u=s)
 next:∀(d u:Int),0≤d→0≤u→u<n→(rd r u=d+1↔(∃w,(0≤w∧w<n)∧rd r w=d∧tb (rd l w) u=true)∧¬(0≤rd r u∧rd r u≤d))
 low:∀u,0≤u→u<n→-1≤rd r u
 stops:∀d,0≤d→(∀u,0≤u→u<n→rd r u≠d)→∀u,0≤u→u<n→rd r u<d
theorem DistL.ds {n:Int} {l:List Int} {s:Int} {r:List Int} (h:DistL n l s r) {u:Int} (u0:0≤u) (u1:u<n) (d:Nat):rd r u=(d:Int)↔Ds n l s d u:=by
 rcases h.2 u u0 u1 with⟨e,g⟩|⟨c,e,g⟩
 ·exact⟨fun z=>by omega,fun z=>absurd z.1 (g d)⟩
 ·constructor
  ·intro z
   have:c=d:=by omega
   exact this ▸ g
  ·intro z
   rw[e,g.uniq z]
theorem DistL.met {n:Int} {l:List Int} {s:Int} {r:List Int} (h:DistL n l s r) {u:Int} (u0:0≤u) (u1:u<n) (d:Nat):(0≤rd r u∧rd r u≤(d:Int))↔∃j,j≤d∧Wk n l s j u:=by
 constructor
 ·intro z
  have:=(h.ds u0 u1 (rd r u).toNat).1 (by omega)
  exact⟨(rd r u).toNat,by omega,this.1⟩
 ·rintro⟨j,hj,hw⟩
  obtain⟨c,hc,hd⟩:=hw.least
  have:=(h.ds u0 u1 c).2 hd
  omega
theorem DistL.dist {n:Int} {l:List Int} {s:Int} {r:List Int} (h:DistL n l s r):Dist n l s r where
 len:=h.1
 src:=fun u u0 u1=>(h.ds u0 u1 0).trans (Ds.zero n l s u)
 next:=fun d u d0 u0 u1=>by
  obtain⟨d,rfl⟩:=Int.eq_ofNat_of_zero_le d0
  have a:=h.ds u0 u1 (d+1)
  rw[show((d+1:Nat):Int)=(d:Int)+1 by omega]at a
  rw[a,Ds.next ⟨u0,u1⟩,h.met u0 u1]
  refine and_congr ⟨?_,?_⟩ Iff.rfl
  ·rintro⟨w,hw,hd,ht⟩
   exact⟨w,hw,(h.ds hw.1 hw.2 d).2 hd,ht⟩
  ·rintro⟨w,hw,hd,ht⟩
   exact⟨w,hw,(h.ds hw.1 hw.2 d).1 hd,ht⟩
 low:=fun u u0 u1=>by
  rcases h.2 u u0 u1 with⟨e,_⟩|⟨c,e,_⟩<;>omega
 stops:=fun d d0 hd u u0 u1=>by
  obtain⟨d,rfl⟩:=Int.eq_ofNat_of_zero_le d0
  rcases h.2 u u0 u1 with⟨e,_⟩|⟨c,e,g⟩
  ·omega
  ·by_cases z:c<d
   ·omega
   ·refine absurd g ?_
    refine Ds.stops (d:=d) (fun w hw=>?_) c (by omega) u
    have hr:0≤w∧w<n:=by
     cases d with
     |zero=>
      have hs:w=s:=hw.1
      by_cases hc:0≤s∧s<n
      ·rw[hs];exact hc
      ·exfalso
       have key:∀(c:Nat) (u:Int),0≤u→u<n→¬Ds n l s c u:=by
        intro c
        induction c with
        |zero=>intro u u0 u1 z;have:u=s:=z.1;exact hc ⟨by omega,by omega⟩
        |succ c ih=>intro u u0 u1 z;obtain⟨w,hw,hd,_⟩:=z.ahead;exact ih w hw.1 hw.2 hd
       exact key c u u0 u1 g
     |succ d=>exact hw.1.1
    exact hd w hr.1 hr.2 ((h.ds hr.1 hr.2 d).2 hw)
open Classical in
theorem distL_exists (n:Int) (l:List Int) (s:Int) (n0:0≤n):∃r,DistL n l s r:=by
 let f:Nat→Int:=fun u=>if h:∃d:Nat,Ds n l s d (u:Int)then(h.choose:Int)else -1
 refine⟨(List.range n.toNat).map f,by simp;omega,fun u u0 u1=>?_⟩
 have e:rd ((List.range n.toNat).map f) u=f u.toNat:=by
  have:u.toNat<n.toNat:=by omega
  simp[rd,List.getD_eq_getElem?_getD,this]
 rw[e]
 have hu:((u.toNat:Nat):Int)=u:=Int.toNat_of_nonneg u0
 show _∨_
 by_cases h:∃d:Nat,Ds n l s d ((u.toNat:Nat):Int)
 ·refine .inr ⟨h.choose,dif_pos h,?_⟩
  have go:∀(c:Nat) (z:Int),z=u→Ds n l s c z→Ds n l s c u:=fun c z e h=>e ▸ h
  exact go _ _ hu h.choose_spec
 ·refine .inl ⟨dif_neg h,fun j hj=>h ?_⟩
  obtain⟨d,_,hd⟩:=hj.least
  exact⟨d,by rwa [hu]⟩
theorem length_of_all (K:Nat):∀xs:List Nat,(∀d,d<K→d ∈ xs)→K≤xs.length:=by
 induction K with
 |zero=>intro xs _;omega
 |succ K ih=>
  intro xs h
  have hm:=h K (by omega)
  have:=ih (xs.erase K) fun d hd=>(List.mem_erase_of_ne (by omega)).2 (h d (by omega))
  have:=List.length_erase_of_mem hm
  have:=List.length_pos_of_mem hm
  omega
theorem Dist.level {n:Int} {l:List Int} {s:Int} {r:List Int} (h:Dist n l s r) (D:Nat):∀u,0≤u→u<n→rd r u=(D:Int)→∀d,d≤D→∃w,(0≤w∧w<n)∧rd r w=(d:Int):=by
 induction D with
 |zero=>intro u u0 u1 hu d hd;exact⟨u,⟨u0,u1⟩,by rw[hu];omega⟩
 |succ D ih=>
  intro u u0 u1 hu d hd
  by_cases e:d=D+1
  ·exact⟨u,⟨u0,u1⟩,by rw[hu,e]⟩
  ·obtain⟨⟨w,hw,hd',_⟩,_⟩:=(h.next D u (by omega) u0 u1).1 (by rw[hu];omega)
   exact ih w hw.1 hw.2 hd' d (by omega)
theorem Dist.small {n:Int} {l:List Int} {s:Int} {r:List Int} (h:Dist n l s r):∀u,0≤u→u<n→rd r u<n:=by
 intro u u0 u1
 by_cases z:rd r u<0
 ·omega
 ·have lv:=h.level (rd r u).toNat u u0 u1 (by omega)
  have:=length_of_all ((rd r u).toNat+1) (r.map Int.toNat) fun d hd=>by
   obtain⟨w,hw,e⟩:=lv d (by omega)
   have hl:=h.len
   have hwl:w.toNat<r.length:=by omega
   have e2:rd r w=r[w.toNat]:=by simp[rd,List.getD_eq_getElem?_getD,List.getElem?_eq_getElem hwl]
   exact List.mem_map.2 ⟨r[w.toNat],List.getElem_mem _,by rw[← e2,e];omega⟩
  rw[List.length_map]at this
  have:=h.len
  omega
def Rw (n x:Int):Prop:=0≤x∧x<2 ^ n.toNat
theorem Rw.nat {n x:Int} (n2:n≤62) (h:Rw n x):∃y:Nat,x=(y:Int)∧y<2 ^ n.toNat∧y<2 ^ 62:=by
 obtain⟨h0,h1⟩:=h
 have e:((2:Int) ^ n.toNat)=((2 ^ n.toNat:Nat):Int):=by simp
 have p:2 ^ n.toNat≤2 ^ 62:=Nat.pow_le_pow_right (by decide) (by omega)
 rw[e]at h1
 exact⟨x.toNat,by omega,by omega,by omega⟩
theorem Rw.of {n:Int} {y:Nat} (h:y<2 ^ n.toNat):Rw n (y:Int):=by
 have e:((2:Int) ^ n.toNat)=((2 ^ n.toNat:Nat):Int):=by simp
 exact⟨by omega,by rw[e];omega⟩
theorem or_rw {n x y:Int} (n2:n≤62) (hx:Rw n x) (hy:Rw n y):Rw n (bits .or .i64 x y)∧∀w,0≤w→(tb (bits .or .i64 x y) w=true↔tb x w=true∨tb y w=true):=by
 obtain⟨a,rfl,a1,a2⟩:=hx.nat n2
 obtain⟨b,rfl,b1,b2⟩:=hy.nat n2
 rw[or_nat a b (by omega) (by omega)]
 refine⟨Rw.of (Nat.or_lt_two_pow a1 b1),fun w w0=>?_⟩
 obtain⟨w,rfl⟩:=Int.eq_ofNat_of_zero_le w0
 rw[tb_nat,tb_nat,tb_nat,Nat.testBit_or]
 simp
theorem andNot_rw {n x y:Int} (n2:n≤62) (hx:Rw n x) (hy:Rw n y):Rw n (bits .andNot .i64 x y)∧∀w,0≤w→(tb (bits .andNot .i64 x y) w=true↔tb x w=true∧¬tb y w=true):=by
 obtain⟨a,rfl,a1,a2⟩:=hx.nat n2
 obtain⟨b,rfl,b1,b2⟩:=hy.nat n2
 obtain⟨c,e,_,hc⟩:=andNot_nat a b (by omega) (by omega)
 rw[e]
 have c1:c<2 ^ n.toNat:=by
  refine Nat.lt_pow_two_of_testBit _ fun i hi=>?_
  rw[hc,Nat.testBit_lt_two_pow (Nat.lt_of_lt_of_le a1 (Nat.pow_le_pow_right (by decide) hi))]
  rfl
 refine⟨Rw.of c1,fun w w0=>?_⟩
 obtain⟨w,rfl⟩:=Int.eq_ofNat_of_zero_le w0
 rw[tb_nat,tb_nat,tb_nat,hc]
 simp
theorem one_rw {n j:Int} (n2:n≤62) (j0:0≤j) (j1:j<n):Rw n (shl .i64 1 j)∧∀w,0≤w→(tb (shl .i64 1 j) w=true↔w=j):=by
 rw[shl_one j0 (by omega),show((2:Int) ^ j.toNat)=((2 ^ j.toNat:Nat):Int) by simp]
 refine⟨Rw.of (Nat.pow_lt_pow_right (by decide) (by omega)),fun w w0=>?_⟩
 obtain⟨w,rfl⟩:=Int.eq_ofNat_of_zero_le w0
 rw[tb_nat,Nat.testBit_two_pow]
 simp
 omega
theorem zero_rw (n:Int):Rw n 0∧∀w,¬tb 0 w=true:=by
 have p:(0:Int)<2 ^ n.toNat:=Int.pow_pos (by decide)
 exact⟨⟨by omega,p⟩,fun w=>by simp[tb]⟩
theorem Rw.eq_zero {n x:Int} (n0:0≤n) (hx:Rw n x):x=0↔∀w,0≤w→w<n→¬tb x w=true:=by
 constructor
 ·rintro rfl w _ _
  exact(zero_rw n).2 w
 ·intro h
  exact tb_ext hx.1 hx.2 (zero_rw n).1.1 (zero_rw n).1.2 n0 fun i i0 i1=>by
   have a:=h i i0 i1
   have b:=(zero_rw n).2 i
   simp at a b
   rw[a,b]
def onesFrom (x:Nat):Nat→Nat→List Int
 |0,_=>[]
 |d+1,m=>if x.testBit m then(m:Int) :: onesFrom x d (m+1)else onesFrom x d (m+1)
theorem onesFrom_zero (d:Nat):∀m,onesFrom 0 d m=[]:=by
 induction d with
 |zero=>intro m;rfl
 |succ d ih=>intro m;simp[onesFrom,ih]
theorem onesFrom_congr (x y:Nat) (d:Nat):∀m,(∀i,m≤i→x.testBit i=y.testBit i)→onesFrom x d m=onesFrom y d m:=by
 induction d with
 |zero=>intro m _;rfl
 |succ d ih=>
  intro m h
  simp only[onesFrom]
  rw[h m (Nat.le_refl _),ih (m+1) fun i hi=>h i (by omega)]
theorem ctz_at {x m:Nat} (hx:x<2 ^ 64) (hb:x.testBit m=true) (hl:∀i,i<m→x.testBit i=false):Lib.ctz 64 x=m∧∃q,x=2 ^ m*(2*q+1):=by
 have h0:x≠0:=by rintro rfl;simp at hb
 obtain⟨q,e,_⟩:=Lib.ctzFrom_spec 64 x (by omega) hx
 have ec:Lib.ctz 64 x=Lib.ctzFrom 64 x:=by simp[Lib.ctz,h0]
 have ht:∀i,x.testBit i=(decide (i≥Lib.ctzFrom 64 x)&&(2*q+1).testBit (i-Lib.ctzFrom 64 x)):=fun i=>by rw[← Nat.testBit_two_pow_mul,← e]
 generalize Lib.ctzFrom 64 x=c at *
 have hc:c=m:=by
  rcases Nat.lt_trichotomy c m with h|h|h
  ·have a:=hl c h
   rw[ht c]at a
   simp at a
  ·exact h
  ·rw[ht m]at hb
   have:¬m≥c:=by omega
   simp[this]at hb
 subst hc
 exact⟨ec,q,e⟩
theorem and_pred {m q:Nat}:(2 ^ m*(2*q+1)) &&& (2 ^ m*(2*q+1)-1)=2 ^ m*(2*q):=by
 have p:=Nat.two_pow_pos m
 have e:2 ^ m*(2*q+1)-1=2 ^ m*(2*q)+(2 ^ m-1):=by rw[Nat.mul_add];omega
 rw[e]
 refine Nat.eq_of_testBit_eq fun i=>?_
 rw[Nat.testBit_and,Nat.testBit_two_pow_mul,Nat.testBit_two_pow_mul_add _ (by omega),Nat.testBit_two_pow_mul]
 by_cases h:i<m
 ·have:¬i≥m:=by omega
  simp[this]
 ·have:i≥m:=by omega
  simp only[this,decide_true,Bool.true_and,h,if_false]
  cases i-m with
  |zero=>simp
  |succ j=>simp[Nat.testBit_succ];rw[show(2*q+1)/2=q by omega];simp
theorem pred_bit {m q i:Nat} (h:m<i):(2 ^ m*(2*q)).testBit i=(2 ^ m*(2*q+1)).testBit i:=by
 rw[Nat.testBit_two_pow_mul,Nat.testBit_two_pow_mul]
 obtain⟨j,hj⟩:∃j,i-m=j+1:=⟨i-m-1,by omega⟩
 rw[hj,Nat.testBit_succ,Nat.testBit_succ,show(2*q+1)/2=2*q/2 by omega]
theorem pred_low {m q i:Nat} (h:i<m+1):(2 ^ m*(2*q)).testBit i=false:=by
 rw[Nat.testBit_two_pow_mul]
 by_cases e:i=m
 ·subst e
  simp
 ·have:¬i≥m:=by omega
  simp[this]
theorem i_list_l0 (d:Nat):∀(m x:Nat) (acc:List Int),d+m=62→x<2 ^ 62→(∀i,i<m→x.testBit i=false)→acc.length≤m→Ev (fun k=>Qbv.l0 k (x:Int) acc) (acc++onesFrom x d m):=by
 have done:∀d m (acc:List Int),Ev (fun k=>Qbv.l0 k ((0:Nat):Int) acc) (acc++onesFrom 0 d m):=by
  intro d m acc
  rw[onesFrom_zero,List.append_nil]
  refine ev_k ?_
  simp only[Qbv.l0]
  exact ev_pos rfl (Ev.now _)
 induction d with
 |zero=>
  intro m x acc hd hx hl ha
  have:x=0:=by
   refine Nat.eq_of_testBit_eq fun i=>?_
   rw[Nat.zero_testBit]
   by_cases hi:i<m
   ·exact hl i hi
   ·exact Nat.testBit_lt_two_pow (Nat.lt_of_lt_of_le hx (Nat.pow_le_pow_right (by decide) (by omega)))
  subst this
  exact done 0 m acc
 |succ d ih=>
  intro m x acc hd hx hl ha
  by_cases hb:x.testBit m=true
  ·obtain⟨hc,q,e⟩:=ctz_at (Nat.lt_trans hx (by decide)) hb hl
   have x0:x≠0:=by rintro rfl;simp at hb
   have hq:2 ^ m*(2*q)<2 ^ 62:=Nat.lt_of_le_of_lt (Nat.mul_le_mul_left _ (by omega)) (e ▸ hx)
   have:=ih (m+1) (2 ^ m*(2*q)) (acc++[(m:Int)]) (by omega) hq (fun i hi=>pred_low hi) (by simp;omega)
   have e2:acc++onesFrom x (d+1) m=acc++[(m:Int)]++onesFrom (2 ^ m*(2*q)) d (m+1):=by
    simp only[onesFrom,hb,if_true]
    rw[onesFrom_congr x (2 ^ m*(2*q)) d (m+1) fun i hi=>by rw[pred_bit (by omega),← e]]
    simp
   rw[e2]
   refine ev_k ?_
   simp only[Qbv.l0]
   refine ev_neg (by omega) ?_
   rw[wu64 (a:=(x:Int)) (by omega) (by omega),w64 (a:=(x:Int)-1) (by omega) (by omega),show(x:Int)-1=((x-1:Nat):Int) by omega,and_nat x (x-1) (by omega) (by omega)]
   have ex:x &&& (x-1)=2 ^ m*(2*q):=by rw[e];exact and_pred
   rw[ex]
   refine ev_bind0 (a:=(m:Int)) ?_ (ev_pos (by omega) this)
   unfold Qby.f
   rw[if_pos (by omega),if_pos (by omega),Int.toNat_natCast,hc]
  ·have:=ih (m+1) x acc (by omega) hx (fun i hi=>if h:i=m then by rw[h];simpa using hb else hl i (by omega)) (by omega)
   have e:onesFrom x (d+1) m=onesFrom x d (m+1):=by simp[onesFrom,hb]
   rwa [e]
def ones (x:Int):List Int:=onesFrom x.toNat 62 0
theorem i_list {x:Int} (h0:0≤x) (h1:x<4611686018427387904):Ev (fun k=>Qbv.f k x) (ones x):=by
 obtain⟨y,rfl⟩:=Int.eq_ofNat_of_zero_le h0
 unfold Qbv.f ones
 rw[Int.toNat_natCast]
 have:=i_list_l0 62 0 y [] (by omega) (by omega) (fun i hi=>by omega) (by simp)
 simpa using this
theorem onesFrom_mem (x:Nat) (d:Nat):∀m (v:Int),v ∈ onesFrom x d m↔∃i:Nat,v=(i:Int)∧m≤i∧i<m+d∧x.testBit i=true:=by
 induction d with
 |zero=>intro m v;simp[onesFrom];intro i _ _;omega
 |succ d ih=>
  intro m v
  simp only[onesFrom]
  have s:(∃i:Nat,v=(i:Int)∧m≤i∧i<m+(d+1)∧x.testBit i=true)↔(v=(m:Int)∧x.testBit m=true)∨∃i:Nat,v=(i:Int)∧m+1≤i∧i<m+1+d∧x.testBit i=true:=by
   constructor
   ·rintro⟨i,rfl,h1,h2,h3⟩
    by_cases e:i=m
    ·subst e
     exact .inl ⟨rfl,h3⟩
    ·exact .inr ⟨i,rfl,by omega,by omega,h3⟩
   ·rintro(⟨rfl,h⟩|⟨i,rfl,h1,h2,h3⟩)
    ·exact⟨m,rfl,by omega,by omega,h⟩
    ·exact⟨i,rfl,by omega,by omega,h3⟩
  rw[s,← ih]
  by_cases h:x.testBit m=true
  ·rw[if_pos h]
   simp[h]
  ·rw[if_neg h]
   simp[h]
theorem ones_mem {n x:Int} (n0:0≤n) (n2:n≤62) (x0:0≤x) (x1:x<2 ^ n.toNat) (v:Int):v ∈ ones x↔0≤v∧v<n∧tb x v=true:=by
 unfold ones
 rw[onesFrom_mem]
 constructor
 ·rintro⟨i,rfl,h1,h2,h3⟩
  have ht:tb x i=true:=by rw[tb_toNat x0 (by omega)];simpa using h3
  refine⟨by omega,?_,ht⟩
  by_cases h:(i:Int)<n
  ·exact h
  ·rw[tb_high x0 x1 n0 (by omega)]at ht
   cases ht
 ·rintro⟨h1,h2,h3⟩
  refine⟨v.toNat,by omega,by omega,by omega,?_⟩
  rwa [tb_toNat x0 h1]at h3
theorem onesFrom_length (x:Nat) (d:Nat):∀m,(onesFrom x d m).length≤d:=by
 induction d with
 |zero=>intro m;simp[onesFrom]
 |succ d ih=>
  intro m
  simp only[onesFrom]
  have:=ih (m+1)
  split<;>simp<;>omega
theorem ones_length (x:Int):(ones x).length≤62:=onesFrom_length _ 62 0
theorem onesFrom_high (x:Nat) (d e:Nat):∀m,x<2 ^ (m+d)→onesFrom x (d+e) m=onesFrom x d m:=by
 induction d with
 |zero=>
  intro m h
  rw[Nat.zero_add]
  induction e generalizing m with
  |zero=>rfl
  |succ e ihe=>
   have hb:x.testBit m=false:=Nat.testBit_lt_two_pow h
   simp only[onesFrom,hb]
   rw[ihe (m+1) (Nat.lt_of_lt_of_le h (Nat.pow_le_pow_right (by decide) (by omega)))]
   simp[onesFrom]
 |succ d ih=>
  intro m h
  rw[show d+1+e=(d+e)+1 by omega]
  simp only[onesFrom]
  rw[ih (m+1) (by rwa [show m+1+d=m+(d+1) by omega])]
theorem ones_to {n x:Int} (n0:0≤n) (n2:n≤62) (x0:0≤x) (x1:x<2 ^ n.toNat):ones x=onesFrom x.toNat n.toNat 0:=by
 unfold ones
 have e:((2:Int) ^ n.toNat)=((2 ^ n.toNat:Nat):Int):=by simp
 rw[e]at x1
 have:=onesFrom_high x.toNat n.toNat (62-n.toNat) 0 (by rw[Nat.zero_add];omega)
 rwa [show n.toNat+(62-n.toNat)=62 by omega]at this
theorem onesFrom_add (x a b:Nat):∀m,onesFrom x (a+b) m=onesFrom x a m++onesFrom x b (m+a):=by
 induction a with
 |zero=>intro m;simp[onesFrom]
 |succ a ih=>
  intro m
  rw[show a+1+b=(a+b)+1 by omega]
  simp only[onesFrom]
  rw[ih (m+1),show m+1+a=m+(a+1) by omega]
  split<;>simp
def Is (n x:Int) (P:Int→Prop):Prop:=Rw n x∧∀u,0≤u→u<n→(tb x u=true↔P u)
theorem Is.imp {n x:Int} {P Q:Int→Prop} (h:Is n x P) (e:∀u,0≤u→u<n→(P u↔Q u)):Is n x Q:=⟨h.1,fun u u0 u1=>(h.2 u u0 u1).trans (e u u0 u1)⟩
theorem level_next {n:Int} {l:List Int} {s:Int} {r:List Int} (hr:Dist n l s r) {d S X:Int} (d0:0≤d) (hX:Is n X fun u=>∃w,(0≤w∧w<n)∧rd r w=d∧tb (rd l w) u=true) (u:Int) (u0:0≤u) (u1:u<n) (hS:tb S u=true↔0≤rd r u∧rd r u≤d):((tb S u=true∨tb X u=true)↔0≤rd r u∧rd r u≤d+1)∧((tb X u=true∧¬tb S u=true)↔rd r u=d+1):=by
 have a:=hr.next d u d0 u0 u1
 rw[hS,hX.2 u u0 u1]
 constructor
 ·constructor
  ·rintro(z|z)
   ·omega
   ·by_cases q:0≤rd r u∧rd r u≤d
    ·omega
    ·have:=a.2 ⟨z,q⟩
     omega
  ·intro z
   by_cases q:0≤rd r u∧rd r u≤d
   ·exact .inl q
   ·exact .inr (a.1 (by omega)).1
 ·exact a.symm
section
variable {n:Int} {l:List Int} (h:rows n l) {s:Int} (s0:0≤s) (s1:s<n) {r:List Int} (hr:Dist n l s r)
include h hr
theorem i_distances_l0 (M:Nat) (hM:∀u,0≤u→u<n→rd r u<(M:Int)) (e:Nat):∀(d:Nat) (ds:List Int) (S L:Int),(M:Int)-d=e→(d:Int)≤1000000→(M:Int)≤1000000→(ds.length:Int)=n→(∀u,0≤u→u<n→rd ds u=if 0≤rd r u∧rd r u<d then rd r u else -1)→Is n S (fun u=>0≤rd r u∧rd r u≤d)→Is n L (fun u=>rd r u=d)→Ev (fun k=>Qar.l0 k ds S L d n l) r:=by
 have n2:=h.2.1
 have hl:=h.2.2.1
 have n0:0≤n:=by have:=h.1;omega
 have stop:∀(d:Nat) (ds:List Int) (S:Int),(ds.length:Int)=n→(∀u,0≤u→u<n→rd ds u=if 0≤rd r u∧rd r u<d then rd r u else -1)→(∀u,0≤u→u<n→rd r u≠d)→Ev (fun k=>Qar.l0 k ds S 0 d n l) r:=by
  intro d ds S hlen hds hno
  have:ds=r:=by
   refine rd_ext (by have:=hr.len;omega) fun u u0 u1=>?_
   have u1:u<n:=by omega
   rw[hds u u0 u1]
   have a:=hr.stops d (by omega) hno u u0 u1
   have b:=hr.low u u0 u1
   split<;>omega
  subst this
  refine ev_k ?_
  simp only[Qar.l0]
  exact ev_pos trivial (Ev.now _)
 induction e with
 |zero=>
  intro d ds S L he hd hM2 hlen hds hS hL
  have hno:∀u,0≤u→u<n→rd r u≠d:=fun u u0 u1=>by have:=hM u u0 u1;omega
  have:L=0:=(hL.1.eq_zero n0).2 fun w w0 w1 z=>hno w w0 w1 ((hL.2 w w0 w1).1 z)
  subst this
  exact stop d ds S hlen hds hno
 |succ e ih=>
  intro d ds S L he hd hM2 hlen hds hS hL
  by_cases hz:L=0
  ·subst hz
   exact stop d ds S hlen hds fun u u0 u1 z=>(hL.1.eq_zero n0).1 rfl u u0 u1 ((hL.2 u u0 u1).2 z)
  ·have hp:=two_pow_le (n:=n) n0 n2
   have inner:∀(ws pre ds:List Int) (X:Int),pre++ws=ones L→(ds.length:Int)=n→(∀u,0≤u→u<n→rd ds u=if(0≤rd r u∧rd r u<d)∨u ∈ pre then rd r u else -1)→Is n X (fun u=>∃w,w ∈ pre∧tb (rd l w) u=true)→Ev (fun k=>Qar.l1 k ds S d X (ones L) (ones L).length pre.length n l) r:=by
    intro ws
    have ol:=ones_length L
    have om:=fun v=>ones_mem n0 n2 hL.1.1 hL.1.2 v
    induction ws with
    |nil=>
     intro pre ds X hpre hlen hds hX
     rw[List.append_nil]at hpre
     subst hpre
     have hX2:Is n X fun u=>∃w,(0≤w∧w<n)∧rd r w=d∧tb (rd l w) u=true:=hX.imp fun u u0 u1=>by
      constructor
      ·rintro⟨w,hw,ht⟩
       obtain⟨a,b,c⟩:=(om w).1 hw
       exact⟨w,⟨a,b⟩,(hL.2 w a b).1 c,ht⟩
      ·rintro⟨w,⟨a,b⟩,c,ht⟩
       exact⟨w,(om w).2 ⟨a,b,(hL.2 w a b).2 c⟩,ht⟩
     have o:=or_rw n2 hS.1 hX.1
     have q:=andNot_rw n2 hX.1 hS.1
     refine ev_k ?_
     simp only[Qar.l1]
     refine ev_neg (by omega) ?_
     rw[w64 (a:=(d:Int)+1) (by omega) (by omega)]
     refine ih (d+1) ds _ _ (by omega) (by omega) hM2 hlen (fun u u0 u1=>?_) ⟨o.1,fun u u0 u1=>?_⟩ ⟨q.1,fun u u0 u1=>?_⟩
     ·rw[hds u u0 u1]
      have z:u ∈ ones L↔rd r u=d:=(om u).trans ⟨fun z=>(hL.2 u u0 u1).1 z.2.2,fun z=>⟨u0,u1,(hL.2 u u0 u1).2 z⟩⟩
      by_cases q:u ∈ ones L
      ·have:=z.1 q
       rw[if_pos (.inr q),if_pos (by omega)]
      ·have q2:rd r u≠d:=fun e=>q (z.2 e)
       by_cases p:0≤rd r u∧rd r u<d
       ·rw[if_pos (.inl p),if_pos (by omega)]
       ·rw[if_neg (by rintro(a|a);exact p a;exact q a),if_neg (by omega)]
     ·rw[o.2 u u0]
      exact((level_next hr (by omega) hX2 u u0 u1 (hS.2 u u0 u1)).1).trans (by omega)
     ·rw[q.2 u u0]
      exact((level_next hr (by omega) hX2 u u0 u1 (hS.2 u u0 u1)).2).trans (by omega)
    |cons w ws ihw=>
     intro pre ds X hpre hlen hds hX
     have hlt:pre.length<(ones L).length:=by rw[← hpre];simp
     have hw:rd (ones L) pre.length=w:=by
      rw[← hpre]
      simp[rd,List.getD_eq_getElem?_getD]
     obtain⟨w0,w1,wt⟩:=(om w).1 (by rw[← hpre];simp)
     have hwd:=(hL.2 w w0 w1).1 wt
     have o:=or_rw n2 hX.1 (h.2.2.2 w w0 w1)
     refine ev_k ?_
     simp only[Qar.l1,hw]
     refine ev_pos (by omega) (ev_pos (by omega) (ev_pos (by omega) (ev_pos w0 (ev_pos (by omega) (ev_pos (by omega) ?_)))))
     rw[w64 (a:=(pre.length:Int)+1) (by omega) (by omega)]
     have:=ihw (pre++[w]) (ds.set w.toNat d) (bits .or .i64 X (rd l w)) (by rw[← hpre];simp) (by simpa using hlen) (fun u u0 u1=>?_) ⟨o.1,fun u u0 u1=>?_⟩
     ·simpa using this
     ·rw[rd_set _ w0 (by omega) u0]
      by_cases e:u=w
      ·subst e
       rw[if_pos rfl,if_pos (.inr (by simp)),hwd]
      ·rw[if_neg e,hds u u0 u1]
       simp[e]
     ·rw[o.2 u u0,hX.2 u u0 u1]
      constructor
      ·rintro(⟨x,hx,ht⟩|ht)
       ·exact⟨x,by simp[hx],ht⟩
       ·exact⟨w,by simp,ht⟩
      ·rintro⟨x,hx,ht⟩
       rcases List.mem_append.1 hx with hx|hx
       ·exact .inl ⟨x,hx,ht⟩
       ·obtain rfl:x=w:=by simpa using hx
        exact .inr ht
   refine ev_k ?_
   simp only[Qar.l0]
   refine ev_neg hz (Ev.bind (i_list hL.1.1 (by have:=hL.1.2;omega)) ?_)
   have:=inner (ones L) [] ds 0 (by simp) hlen (fun u u0 u1=>by rw[hds u u0 u1];simp) ⟨(zero_rw n).1,fun u u0 u1=>⟨fun z=>absurd z ((zero_rw n).2 u),fun⟨w,hw,_⟩=>by cases hw⟩⟩
   simpa using this
include s0 s1
theorem i_distances:Ev (fun k=>Qar.f k n l s) r:=by
 have n2:=h.2.1
 have n0:0≤n:=by have:=h.1;omega
 have hb:∀u,0≤u→u<n→rd r u<1000000:=fun u u0 u1=>by have:=hr.small u u0 u1;omega
 obtain⟨o1,o2⟩:=one_rw n2 s0 s1
 unfold Qar.f
 refine ev_bind0 (a:=List.replicate n.toNat (-1)) ?_ (ev_pos s0 ?_)
 ·unfold Qbn.f
  rw[if_pos (show([-1]:List Int).length=1 from rfl),if_pos n0,if_pos (by omega)]
  rfl
 ·refine i_distances_l0 h hr 1000000 hb 1000000 0 _ _ _ (by omega) (by omega) (by omega) (by simp;omega) (fun u u0 u1=>?_) ⟨o1,fun u u0 u1=>?_⟩ ⟨o1,fun u u0 u1=>?_⟩
  ·have:u.toNat<n.toNat:=by omega
   rw[if_neg (by omega)]
   simp[rd,List.getD_eq_getElem?_getD,this]
  ·rw[o2 u u0,← hr.src u u0 u1]
   omega
  ·rw[o2 u u0,← hr.src u u0 u1]
   omega
end
theorem rd_app_left {q:List Int} {u:Int} {i:Int} (i0:0≤i) (i1:i<q.length):rd (q++[u]) i=rd q i:=by
 simp only[rd,List.getD_eq_getElem?_getD]
 rw[List.getElem?_append_left (by omega)]
theorem rd_app_last (q:List Int) (u:Int):rd (q++[u]) q.length=u:=by
 simp[rd,List.getD_eq_getElem?_getD]
theorem rd_mem {q:List Int} {i:Int} (i0:0≤i) (i1:i<q.length):rd q i ∈ q:=by
 have hu:i.toNat<q.length:=by omega
 have:rd q i=q[i.toNat]:=by simp[rd,List.getD_eq_getElem?_getD,List.getElem?_eq_getElem hu]
 rw[this]
 exact List.getElem_mem _
theorem mem_rd {q:List Int} {u:Int} (h:u ∈ q):∃i:Int,(0≤i∧i<q.length)∧rd q i=u:=by
 obtain⟨i,hi,rfl⟩:=List.getElem_of_mem h
 exact⟨i,by omega,by simp[rd,List.getD_eq_getElem?_getD,List.getElem?_eq_getElem hi]⟩
structure QI (n:Int) (l:List Int) (s:Int) (r ds q:List Int) (i:Int):Prop where
 len:(ds.length:Int)=n
 at0:0≤i∧i≤q.length
 val:∀u,0≤u→u<n→rd ds u=-1∨(rd ds u=rd r u∧0≤rd r u)
 mem:∀u,u ∈ q↔(0≤u∧u<n)∧0≤rd ds u
 mono:∀a b:Int,0≤a→a≤b→b<q.length→rd r (rd q a)≤rd r (rd q b)
 top:i<q.length→∀b:Int,0≤b→b<q.length→rd r (rd q b)≤rd r (rd q i)+1
 clos:∀a:Int,0≤a→a<i→∀u,0≤u→u<n→tb (rd l (rd q a)) u=true→0≤rd ds u
 met:i<q.length→∀u,0≤u→u<n→0≤rd r u→rd r u≤rd r (rd q i)→0≤rd ds u
 cnt:ds.count (-1)+q.length=n
 src:s ∈ q
section
variable {n:Int} {l:List Int} {s:Int} {r:List Int} (hr:Dist n l s r)
theorem QI.head {ds q:List Int} {i:Int} (h:QI n l s r ds q i) (hi:i<q.length):(0≤rd q i∧rd q i<n)∧rd ds (rd q i)=rd r (rd q i)∧0≤rd r (rd q i):=by
 obtain⟨hw,h0⟩:=(h.mem (rd q i)).1 (rd_mem h.at0.1 hi)
 rcases h.val _ hw.1 hw.2 with e|e
 ·omega
 ·exact⟨hw,e.1,e.2⟩
include hr
theorem QI.add {ds q:List Int} {i:Int} (h:QI n l s r ds q i) (hi:i<q.length) {u:Int} (u0:0≤u) (u1:u<n) (ht:tb (rd l (rd q i)) u=true) (hu:rd ds u<0):rd r u=rd r (rd q i)+1∧QI n l s r (ds.set u.toNat (rd r u)) (q++[u]) i:=by
 obtain⟨hw,hd,h0⟩:=h.head hi
 have i0:=h.at0.1
 have hnext:=hr.next (rd r (rd q i)) u h0 u0 u1
 have e:rd r u=rd r (rd q i)+1:=by
  refine hnext.2 ⟨⟨rd q i,hw,rfl,ht⟩,fun z=>?_⟩
  have:=h.met hi u u0 u1 z.1 z.2
  omega
 have hlen:=h.len
 have hs:∀v,0≤v→rd (ds.set u.toNat (rd r u)) v=if v=u then rd r u else rd ds v:=fun v v0=>rd_set _ u0 (by omega) v0
 have nm:∀v,0≤v→0≤rd ds v→0≤rd (ds.set u.toNat (rd r u)) v:=fun v v0 z=>by
  rw[hs v v0]
  split<;>omega
 have len2:((q++[u]).length:Int)=q.length+1:=by simp
 refine⟨e,⟨by simpa using hlen,by omega,fun v v0 v1=>?_,fun v=>?_,fun a b a0 ab b1=>?_,fun _ b b0 b1=>?_,fun a a0 a1 v v0 v1 tv=>?_,fun _ v v0 v1 z y=>?_,?_,by simp[h.src]⟩⟩
 ·rw[hs v v0]
  by_cases z:v=u
  ·rw[if_pos z,z]
   exact .inr ⟨rfl,by omega⟩
  ·rw[if_neg z]
   exact h.val v v0 v1
 ·rw[List.mem_append,List.mem_singleton,h.mem v]
  constructor
  ·rintro(⟨z,y⟩|rfl)
   ·exact⟨z,nm v z.1 y⟩
   ·exact⟨⟨u0,u1⟩,by rw[hs v u0,if_pos rfl];omega⟩
  ·rintro⟨z,y⟩
   by_cases q:v=u
   ·exact .inr q
   ·rw[hs v z.1,if_neg q]at y
    exact .inl ⟨z,y⟩
 ·by_cases hb:b=q.length
  ·subst hb
   rw[rd_app_last]
   by_cases ha:a=q.length
   ·subst ha
    rw[rd_app_last]
    omega
   ·rw[rd_app_left a0 (by omega),e]
    exact h.top hi a a0 (by omega)
  ·rw[rd_app_left a0 (by omega),rd_app_left (by omega) (by omega)]
   exact h.mono a b a0 ab (by omega)
 ·rw[rd_app_left (q:=q) (i:=i) i0 hi]
  by_cases hb:b=q.length
  ·subst hb
   rw[rd_app_last]
   omega
  ·rw[rd_app_left b0 (by omega)]
   exact h.top hi b b0 (by omega)
 ·rw[rd_app_left a0 (by omega)]at tv
  exact nm v v0 (h.clos a a0 a1 v v0 v1 tv)
 ·rw[rd_app_left (q:=q) (i:=i) i0 hi]at y
  exact nm v v0 (h.met hi v v0 v1 z y)
 ·have hul:u.toNat<ds.length:=by omega
  have e1:ds[u.toNat]=-1:=by
   have:=h.val u u0 u1
   have e2:rd ds u=ds[u.toNat]:=by simp[rd,List.getD_eq_getElem?_getD,List.getElem?_eq_getElem hul]
   omega
  have c:=List.count_set (a:=rd r u) (b:=(-1:Int)) hul
  have cp:0<ds.count (-1):=List.count_pos_iff.2 (by rw[← e1];exact List.getElem_mem _)
  rw[e1,if_pos (by simp),if_neg (by simp;omega)]at c
  have:=h.cnt
  rw[c,List.length_append]
  simp
  omega
theorem QI.step {ds q:List Int} {i:Int} (h:QI n l s r ds q i) (hi:i<q.length) (hp:∀u,0≤u→u<n→tb (rd l (rd q i)) u=true→0≤rd ds u):QI n l s r ds q (i+1):=by
 obtain⟨hw,hd,h0⟩:=h.head hi
 have i0:=h.at0.1
 have hcl:∀a:Int,0≤a→a<i+1→∀u,0≤u→u<n→tb (rd l (rd q a)) u=true→0≤rd ds u:=fun a a0 a1 u u0 u1 tu=>by
  by_cases e:a=i
  ·subst e
   exact hp u u0 u1 tu
  ·exact h.clos a a0 (by omega) u u0 u1 tu
 refine⟨h.len,by omega,h.val,h.mem,h.mono,fun hi2 b b0 b1=>?_,hcl,fun hi2 u u0 u1 z y=>?_,h.cnt,h.src⟩
 ·have a:=h.mono i (i+1) i0 (by omega) hi2
  have c:=h.top hi b b0 b1
  omega
 ·have a:=h.mono i (i+1) i0 (by omega) hi2
  have c:=h.top hi (i+1) (by omega) hi2
  by_cases e:rd r u≤rd r (rd q i)
  ·exact h.met hi u u0 u1 z e
  ·obtain⟨⟨w,hw,hwd,ht⟩,_⟩:=(hr.next (rd r (rd q i)) u h0 u0 u1).1 (by omega)
   have hwq:w ∈ q:=(h.mem w).2 ⟨hw,h.met hi w hw.1 hw.2 (by omega) (by omega)⟩
   obtain⟨a,ha,hae⟩:=mem_rd hwq
   have:a<i+1:=by
    by_cases z2:a<i+1
    ·exact z2
    ·have:=h.mono (i+1) a (by omega) (by omega) ha.2
     rw[hae]at this
     omega
   rw[← hae]at ht
   exact hcl a ha.1 this u u0 u1 ht
theorem QI.done {ds q:List Int} {i:Int} (h:QI n l s r ds q i) (hi:¬i<q.length):ds=r:=by
 have hall:∀(d:Nat) (u:Int),0≤u→u<n→rd r u=(d:Int)→0≤rd ds u:=by
  intro d
  induction d with
  |zero=>
   intro u u0 u1 hu
   have:=(hr.src u u0 u1).1 hu
   subst this
   exact((h.mem _).1 h.src).2
  |succ d ih=>
   intro u u0 u1 hu
   obtain⟨⟨w,hw,hwd,ht⟩,_⟩:=(hr.next d u (by omega) u0 u1).1 (by omega)
   obtain⟨a,ha,hae⟩:=mem_rd ((h.mem w).2 ⟨hw,ih w hw.1 hw.2 hwd⟩)
   rw[← hae]at ht
   exact h.clos a ha.1 (by omega) u u0 u1 ht
 refine rd_ext (by have:=h.len;have:=hr.len;omega) fun u u0 u1=>?_
 have u1:u<n:=by have:=h.len;omega
 have lw:=hr.low u u0 u1
 rcases h.val u u0 u1 with e|e
 ·by_cases z:rd r u<0
  ·omega
  ·have:=hall (rd r u).toNat u u0 u1 (by omega)
   omega
 ·exact e.1
theorem QI.start (s0:0≤s) (s1:s<n):QI n l s r ((List.replicate n.toNat (-1)).set s.toNat 0) [s] 0:=by
 have hs:∀v,0≤v→v<n→rd ((List.replicate n.toNat (-1)).set s.toNat 0) v=if v=s then 0 else -1:=fun v v0 v1=>by
  rw[rd_set _ s0 (by simp;omega) v0]
  have:v.toNat<n.toNat:=by omega
  split
  ·rfl
  ·simp[rd,List.getD_eq_getElem?_getD,this]
 have h0:rd [s] 0=s:=rfl
 have e0:=(hr.src s s0 s1).2 rfl
 have one:∀b:Int,0≤b→b<([s].length:Nat)→rd [s] b=s:=fun b b0 b1=>by
  obtain rfl:b=0:=by simp at b1;omega
  rfl
 refine⟨by simp;omega,by simp,fun u u0 u1=>?_,fun u=>?_,fun a b a0 ab b1=>?_,fun _ b b0 b1=>?_,fun a a0 a1=>by omega,fun _ u u0 u1 z y=>?_,?_,by simp⟩
 ·rw[hs u u0 u1]
  by_cases e:u=s
  ·rw[if_pos e,e,e0]
   exact .inr ⟨rfl,by omega⟩
  ·exact .inl (if_neg e)
 ·rw[List.mem_singleton]
  constructor
  ·rintro rfl
   exact⟨⟨s0,s1⟩,by rw[hs u s0 s1,if_pos rfl];omega⟩
  ·rintro⟨z,y⟩
   rw[hs u z.1 z.2]at y
   by_cases e:u=s
   ·exact e
   ·rw[if_neg e]at y
    omega
 ·rw[one a a0 (by omega),one b (by omega) b1]
  omega
 ·rw[one b b0 b1,h0]
  omega
 ·rw[h0,e0]at y
  rw[(hr.src u u0 u1).1 (by omega),hs s s0 s1,if_pos rfl]
  omega
 ·have hul:s.toNat<(List.replicate n.toNat (-1:Int)).length:=by simp;omega
  have c:=List.count_set (a:=(0:Int)) (b:=(-1:Int)) hul
  rw[c]
  simp
  omega
end
open Classical in
noncomputable def dist (n:Int) (l:List Int) (s:Int):List Int:=if h:0≤n then(distL_exists n l s h).choose else[]
theorem distL (n:Int) (l:List Int) (s:Int) (n0:0≤n):DistL n l s (dist n l s):=by
 unfold dist
 rw[dif_pos n0]
 exact(distL_exists n l s n0).choose_spec
theorem dist_of (n:Int) (l:List Int) (s:Int) (n0:0≤n):Dist n l s (dist n l s):=(distL n l s n0).dist
theorem dist_sym {n:Int} {l:List Int} (h:isG n l) {v u:Int} (v0:0≤v) (v1:v<n) (u0:0≤u) (u1:u<n):rd (dist n l v) u=rd (dist n l u) v:=by
 have n0:0≤n:=by omega
 have hg:∀v w,0≤v→v<n→0≤w→w<n→tb (rd l v) w=tb (rd l w) v:=fun v w a b c d=>h.2.2 v w a b c d
 have a:=distL n l v n0
 have b:=distL n l u n0
 rcases a.2 u u0 u1 with⟨e,z⟩|⟨d,e,z⟩
 ·rcases b.2 v v0 v1 with⟨f,y⟩|⟨d,f,y⟩
  ·rw[e,f]
  ·exact absurd (Wk.back hg d v y.1) (z d)
 ·rw[e,(b.ds v0 v1 d).2 (z.back hg)]
section
variable {n:Int} {l:List Int} (h:rows n l) (a b:Int) {l':List Int} (hcut:∀w u,0≤w→w<n→0≤u→u<n→(tb (rd l' w) u=true↔tb (rd l w) u=true∧¬(w=a∧u=b)∧¬(w=b∧u=a))) {s:Int} (s0:0≤s) (s1:s<n) {r:List Int} (hr:Dist n l' s r)
include h hcut hr
theorem s_from_l1 (e:Nat):∀(i:Int) (ds q:List Int),n-i=e→QI n l' s r ds q i→Ev (fun k=>Qaq.l1 k a b ds q i n l) r:=by
 have n1:=h.1
 have n2:=h.2.1
 have hl:=h.2.2.1
 have stop:∀(i:Int) (ds q:List Int),QI n l' s r ds q i→¬i<q.length→Ev (fun k=>Qaq.l1 k a b ds q i n l) r:=by
  intro i ds q hq hi
  obtain rfl:=hq.done hr hi
  refine ev_k ?_
  simp only[Qaq.l1]
  exact ev_neg hi (Ev.now _)
 induction e with
 |zero=>
  intro i ds q he hq
  exact stop i ds q hq (by have:=hq.cnt;omega)
 |succ e ih=>
  intro i ds q he hq
  by_cases hi:i<q.length
  ·have i0:=hq.at0.1
   have inner:∀(c:Nat) (u:Int) (ds q:List Int) (w:Int),QI n l' s r ds q i→i<q.length→rd q i=w→0≤u→u≤n→n-u=c→(∀v,0≤v→v<u→tb (rd l' w) v=true→0≤rd ds v)→Ev (fun k=>Qaq.l2 k a b ds q i w u n l) r:=by
    intro c
    induction c with
    |zero=>
     intro u ds q w hq hi hw u0 u1 hc hp
     refine ev_k ?_
     simp only[Qaq.l2]
     rw[w64 (a:=i+1) (by have:=hq.cnt;omega) (by have:=hq.cnt;omega)]
     exact ev_neg (by omega) (ih (i+1) ds q (by omega) (hq.step hr hi fun v v0 v1 tv=>hp v v0 (by omega) (by rw[← hw];exact tv)))
    |succ c ihc=>
     intro u ds q w hq hi hw u0 u1 hc hp
     obtain⟨hwr,hwd,hw0⟩:=hq.head hi
     rw[hw]at hwr hwd hw0
     have hlen:=hq.len
     have hcnt:=hq.cnt
     have hc':=hcut w u hwr.1 hwr.2 u0 (by omega)
     have bq:bits .and .i64 (shr .i64 (rd l w) u) 1=0↔¬tb (rd l w) u=true:=by
      rw[bit_at u0 (by omega)]
      cases tb (rd l w) u<;>simp
     have skip:(tb (rd l' w) u=true→0≤rd ds u)→Ev (fun k=>Qaq.l2 k a b ds q i w (u+1) n l) r:=fun z=>ihc (u+1) ds q w hq hi hw (by omega) (by omega) (by omega) fun v v0 v1 tv=>by
      by_cases y:v=u
      ·rw[y]at tv ⊢
       exact z tv
      ·exact hp v v0 (by omega) tv
     refine ev_k ?_
     simp only[Qaq.l2]
     rw[wu64 u0 (by omega),w64 (a:=u+1) (by omega) (by omega)]
     refine ev_pos (by omega) (ev_pos hwr.1 (ev_pos (by omega) (ev_pos u0 ?_)))
     by_cases ht:tb (rd l w) u=true
     ·refine ev_neg (fun z=>bq.1 z ht) (ev_pos u0 (ev_pos (by omega) ?_))
      by_cases hu:rd ds u≥0
      ·exact ev_pos hu (skip fun _=>hu)
      ·refine ev_neg hu ?_
       by_cases hx:(w=a∧u=b)∨(w=b∧u=a)
       ·have sk:=skip fun z=>by
         have:=hc'.1 z
         rcases hx with y|y
         ·exact absurd y this.2.1
         ·exact absurd y this.2.2
        refine ev_ite (fun q1=>ev_ite (fun q2=>sk) fun q2=>ev_ite (fun q3=>ev_ite (fun q4=>sk) fun q4=>?_) fun q3=>?_) fun q1=>ev_ite (fun q3=>ev_ite (fun q4=>sk) fun q4=>?_) fun q3=>?_
        all_goals exact absurd hx (by omega)
       ·have ht':=hc'.2 ⟨ht,fun z=>hx (.inl z),fun z=>hx (.inr z)⟩
        have add:Ev (fun k=>if w<(ds.length:Int)then(if q.length<17592186044416 then(Qaq.l2 k a b (ds.set (u:Int).toNat (wrap64 ((rd ds w)+1))) (q++[u]) i w (u+1) n l)else(none))else(none)) r:=by
         refine ev_pos (by omega) (ev_pos (by omega) ?_)
         obtain⟨e2,hq2⟩:=hq.add hr hi u0 (by omega) (by rw[hw];exact ht') (by omega)
         rw[hw]at e2
         have hsm:=hr.small w hwr.1 hwr.2
         rw[hwd,w64 (a:=rd r w+1) (by omega) (by omega),← e2]
         refine ihc (u+1) _ _ w hq2 (by simp;omega) (by rw[rd_app_left i0 hi];exact hw) (by omega) (by omega) (by omega) fun v v0 v1 tv=>?_
         rw[rd_set _ u0 (by omega) v0]
         by_cases z:v=u
         ·rw[if_pos z]
          omega
         ·rw[if_neg z]
          exact hp v v0 (by omega) tv
        refine ev_ite (fun q1=>ev_ite (fun q2=>absurd (.inl ⟨q1,q2⟩) hx) fun q2=>ev_ite (fun q3=>ev_ite (fun q4=>absurd (.inr ⟨q3,q4⟩) hx) fun q4=>add) fun q3=>add) fun q1=>ev_ite (fun q3=>ev_ite (fun q4=>absurd (.inr ⟨q3,q4⟩) hx) fun q4=>add) fun q3=>add
     ·exact ev_pos (bq.2 ht) (skip fun z=>absurd (hc'.1 z).1 ht)
   refine ev_k ?_
   simp only[Qaq.l1]
   exact ev_pos hi (ev_pos i0 (inner n.toNat 0 ds q _ hq hi rfl (by omega) (by omega) (by omega) fun v v0 v1=>by omega))
  ·exact stop i ds q hq hi
include s0 s1
theorem s_from_cut:Ev (fun k=>Qaq.f k n l s a b) r:=by
 have n1:=h.1
 have n2:=h.2.1
 have fill:∀(d:Nat) (i:Nat),(i:Int)≤n→n-i=d→Ev (fun k=>Qaq.l0 k s a b (List.replicate i (-1)) i n l) r:=by
  intro d
  induction d with
  |zero=>
   intro i h1 hd
   have:=s_from_l1 h a b hcut hr n.toNat 0 _ _ (by omega) (QI.start hr s0 s1)
   refine ev_k ?_
   simp only[Qaq.l0]
   refine ev_neg (by omega) (ev_pos s0 (ev_pos (by simp;omega) ?_))
   rw[show i=n.toNat by omega]
   exact this
  |succ d ih=>
   intro i h1 hd
   have:=ih (i+1) (by omega) (by omega)
   refine ev_k ?_
   simp only[Qaq.l0]
   refine ev_pos (by omega) (ev_pos (by simp;omega) ?_)
   rw[w64 (a:=(i:Int)+1) (by omega) (by omega),← List.replicate_succ']
   exact this
 unfold Qaq.f
 exact fill n.toNat 0 (by omega) (by omega)
end
theorem s_from {n:Int} {l:List Int} (h:rows n l) {s:Int} (s0:0≤s) (s1:s<n) {r:List Int} (hr:Dist n l s r):Ev (fun k=>Qaq.f k n l s (-1) (-1)) r:=
 s_from_cut h (-1) (-1) (fun w u w0 w1 u0 u1=>⟨fun z=>⟨z,by omega,by omega⟩,fun z=>z.1⟩) s0 s1 hr
noncomputable def dists (n:Int) (l:List Int) (m:Nat):List (List Int):=(List.range m).map fun(j:Nat)=>dist n l (j:Int)
theorem dists_length (n:Int) (l:List Int) (m:Nat):(dists n l m).length=m:=by simp[dists]
theorem dists_succ (n:Int) (l:List Int) (m:Nat):dists n l (m+1)=dists n l m++[dist n l m]:=by simp[dists,List.range_succ]
theorem s_rows {n:Int} {l:List Int} (h:rows n l):Ev (fun k=>Qcb.f k n l) (dists n l n.toNat):=by
 have n1:=h.1
 have n2:=h.2.1
 have loop:∀(d:Nat) (i:Nat),(i:Int)≤n→n-i=d→Ev (fun k=>Qcb.l0 k (dists n l i) i n l) (dists n l n.toNat):=by
  intro d
  induction d with
  |zero=>
   intro i h1 hd
   refine ev_k ?_
   simp only[Qcb.l0]
   refine ev_neg (by omega) (ev_some ?_)
   rw[show i=n.toNat by omega]
  |succ d ih=>
   intro i h1 hd
   refine ev_k ?_
   simp only[Qcb.l0]
   refine ev_pos (by omega) (Ev.bind (s_from h (by omega) (by omega) (dist_of n l i (by omega))) (ev_pos (by rw[dists_length];omega) ?_))
   rw[w64 (by omega) (by omega),← dists_succ]
   exact ih (i+1) (by omega) (by omega)
 unfold Qcb.f
 exact loop n.toNat 0 (by omega) (by omega)
theorem rd_dists {n:Int} (l:List Int) {v:Int} (v0:0≤v) (v1:v<n):rd_L2 (dists n l n.toNat) v=dist n l v:=by
 have:v.toNat<n.toNat:=by omega
 simp[rd_L2,dists,List.getD_eq_getElem?_getD,this]
 congr 1
 omega
noncomputable def ecc (n:Int) (l:List Int) (v:Int):Int:=top (dist n l v)
noncomputable def eccs (n:Int) (l:List Int) (m:Nat):List Int:=(List.range m).map fun(j:Nat)=>ecc n l (j:Int)
theorem eccs_length (n:Int) (l:List Int) (m:Nat):(eccs n l m).length=m:=by simp[eccs]
theorem eccs_succ (n:Int) (l:List Int) (m:Nat):eccs n l (m+1)=eccs n l m++[ecc n l m]:=by simp[eccs,List.range_succ]
theorem eccs_at (n:Int) (l:List Int) (m:Nat) {v:Int} (v0:0≤v) (v1:v<m):rd (eccs n l m) v=ecc n l v:=by
 have:v.toNat<m:=by omega
 simp[rd,eccs,List.getD_eq_getElem?_getD,this]
 congr 1
 omega
theorem ecc_max {n:Int} (l:List Int) (n1:1≤n) (n2:n≤62) (v:Int):IsMax (dist n l v) (ecc n l v):=by
 have hlen:=(dist_of n l v (by omega)).len
 obtain⟨m,_,hm⟩:=r_max (dist n l v) (by omega) (by omega)
 unfold ecc
 rw[top_eq hm]
 exact hm
noncomputable def diam (n:Int) (l:List Int):Int:=top (eccs n l n.toNat)
theorem diam_max {n:Int} (l:List Int) (n1:1≤n) (n2:n≤62):IsMax (eccs n l n.toNat) (diam n l):=by
 have hlen:=eccs_length n l n.toNat
 obtain⟨m,_,hm⟩:=r_max (eccs n l n.toNat) (by omega) (by omega)
 unfold diam
 rw[top_eq hm]
 exact hm
theorem diam_le {n:Int} (l:List Int) (n1:1≤n) (n2:n≤62) {v u:Int} (v0:0≤v) (v1:v<n) (u0:0≤u) (u1:u<n):rd (dist n l v) u≤diam n l:=by
 have a:=(ecc_max l n1 n2 v).1 u u0 (by have:=(dist_of n l v (by omega)).len;omega)
 have b:=(diam_max l n1 n2).1 v v0 (by rw[eccs_length];omega)
 rw[eccs_at n l _ v0 (by omega)]at b
 omega
theorem diam_at {n:Int} (l:List Int) (n1:1≤n) (n2:n≤62):∃v u,((0≤v∧v<n)∧(0≤u∧u<n))∧rd (dist n l v) u=diam n l:=by
 obtain⟨_,v,v0,v1,e⟩:=diam_max l n1 n2
 rw[eccs_length]at v1
 obtain⟨_,u,u0,u1,f⟩:=ecc_max l n1 n2 v
 have:=(dist_of n l v (by omega)).len
 rw[eccs_at n l _ v0 (by omega)]at e
 exact⟨v,u,⟨⟨v0,by omega⟩,⟨u0,by omega⟩⟩,by omega⟩
section
variable {n:Int} {l:List Int} (h:rows n l)
include h
theorem i_reaches:Ev (fun k=>Qbq.f k n l) (eccs n l n.toNat):=by
 have n1:=h.1
 have n2:=h.2.1
 have loop:∀(d:Nat) (i:Nat),(i:Int)≤n→n-i=d→Ev (fun k=>Qbq.l0 k (eccs n l i) n i n l) (eccs n l n.toNat):=by
  intro d
  induction d with
  |zero=>
   intro i h1 hd
   refine ev_k ?_
   simp only[Qbq.l0]
   refine ev_neg (by omega) (ev_some ?_)
   rw[show i=n.toNat by omega]
  |succ d ih=>
   intro i h1 hd
   have hdist:=dist_of n l i (by omega)
   have hlen:=hdist.len
   obtain⟨m,hm,hmax⟩:=r_max (dist n l i) (by omega) (by omega)
   have em:m=ecc n l i:=(ecc_max l n1 n2 i).uniq hmax |>.symm
   rw[em]at hm
   have:=ih (i+1) (by omega) (by omega)
   rw[eccs_succ]at this
   refine ev_k ?_
   simp only[Qbq.l0]
   refine ev_pos (by omega) (Ev.bind (i_distances h (by omega) (by omega) hdist) (Ev.bind hm (ev_pos (by rw[eccs_length];omega) ?_)))
   rw[w64 (a:=(i:Int)+1) (by omega) (by omega)]
   exact this
 unfold Qbq.f
 exact loop n.toNat 0 (by omega) (by omega)
theorem s_levels {v:Int} (v0:0≤v) (v1:v<n):∃q:List Int,Ev (fun k=>Qbg.f k n l v) q∧(q.length:Int)=ecc n l v+1:=by
 have n1:=h.1
 have n2:=h.2.1
 have hd:=dist_of n l v (by omega)
 have hlen:=hd.len
 have hmax:=ecc_max l n1 n2 v
 generalize hr:dist n l v=r at *
 have hsm:∀u,0≤u→u<n→rd r u<n:=hd.small
 have l0:∀(d:Nat) (w:Int) (out:List Int),0≤w→w≤n→n-w=d→(∀u,0≤u→u<w→rd r u<out.length)→(out.length=0∨∃u,(0≤u∧u<n)∧(out.length:Int)≤rd r u+1)→∃q:List Int,Ev (fun k=>Qbg.l0 k r out w) q∧(q.length:Int)=ecc n l v+1:=by
  intro d
  induction d with
  |zero=>
   intro w out w0 w1 hw ha hb
   refine⟨out,ev_k ?_,?_⟩
   ·simp only[Qbg.l0]
    exact ev_neg (by omega) (Ev.now _)
   ·have hs:=ha v v0 (by omega)
    have h0:=(hd.src v v0 v1).2 rfl
    obtain⟨m1,u,u0,u1,e⟩:=hmax
    have:=ha u u0 (by omega)
    rcases hb with hb|⟨u',hu,hb⟩
    ·omega
    ·have:=m1 u' hu.1 (by omega)
     omega
  |succ d ih=>
   intro w out w0 w1 hw ha hb
   have hsw:=hsm w w0 (by omega)
   have l1:∀(e:Nat) (out:List Int),rd r w+1-out.length≤e→(∀u,0≤u→u<w→rd r u<out.length)→(out.length=0∨∃u,(0≤u∧u<n)∧(out.length:Int)≤rd r u+1)→∃q:List Int,Ev (fun k=>Qbg.l1 k r out w) q∧(q.length:Int)=ecc n l v+1:=by
    intro e
    induction e with
    |zero=>
     intro out he ha hb
     by_cases z:rd r w≥0
     ·obtain⟨q,hq,hl⟩:=ih (w+1) (out.set (rd r w).toNat (wrap64 (rd out (rd r w)+1))) (by omega) (by omega) (by omega) (fun u u0 u1=>by
       rw[List.length_set]
       by_cases e:u=w
       ·rw[e];omega
       ·exact ha u u0 (by omega)) (by rw[List.length_set];exact hb)
      refine⟨q,ev_k ?_,hl⟩
      simp only[Qbg.l1]
      rw[w64 (a:=w+1) (by omega) (by omega)]
      exact ev_pos w0 (ev_pos (by omega) (ev_neg (by omega) (ev_pos z (ev_pos z (ev_pos (by omega) hq)))))
     ·obtain⟨q,hq,hl⟩:=ih (w+1) out (by omega) (by omega) (by omega) (fun u u0 u1=>by
       by_cases e:u=w
       ·rw[e];omega
       ·exact ha u u0 (by omega)) hb
      refine⟨q,ev_k ?_,hl⟩
      simp only[Qbg.l1]
      rw[w64 (a:=w+1) (by omega) (by omega)]
      exact ev_pos w0 (ev_pos (by omega) (ev_neg (by omega) (ev_neg z hq)))
    |succ e ihe=>
     intro out he ha hb
     by_cases y:(out.length:Int)≤rd r w
     ·obtain⟨q,hq,hl⟩:=ihe (out++[0]) (by simp;omega) (fun u u0 u1=>by have:=ha u u0 u1;simp;omega) (.inr ⟨w,⟨w0,by omega⟩,by simp;omega⟩)
      refine⟨q,ev_k ?_,hl⟩
      simp only[Qbg.l1]
      exact ev_pos w0 (ev_pos (by omega) (ev_pos y (ev_pos (by omega) hq)))
     ·by_cases z:rd r w≥0
      ·obtain⟨q,hq,hl⟩:=ih (w+1) (out.set (rd r w).toNat (wrap64 (rd out (rd r w)+1))) (by omega) (by omega) (by omega) (fun u u0 u1=>by
        rw[List.length_set]
        by_cases e:u=w
        ·rw[e];omega
        ·exact ha u u0 (by omega)) (by rw[List.length_set];exact hb)
       refine⟨q,ev_k ?_,hl⟩
       simp only[Qbg.l1]
       rw[w64 (a:=w+1) (by omega) (by omega)]
       exact ev_pos w0 (ev_pos (by omega) (ev_neg y (ev_pos z (ev_pos z (ev_pos (by omega) hq)))))
      ·obtain⟨q,hq,hl⟩:=ih (w+1) out (by omega) (by omega) (by omega) (fun u u0 u1=>by
        by_cases e:u=w
        ·rw[e];omega
        ·exact ha u u0 (by omega)) hb
       refine⟨q,ev_k ?_,hl⟩
       simp only[Qbg.l1]
       rw[w64 (a:=w+1) (by omega) (by omega)]
       exact ev_pos w0 (ev_pos (by omega) (ev_neg y (ev_neg z hq)))
   obtain⟨q,hq,hl⟩:=l1 (rd r w+1-out.length).toNat out (by omega) ha hb
   refine⟨q,ev_k ?_,hl⟩
   simp only[Qbg.l0]
   exact ev_pos (by omega) hq
 obtain⟨q,hq,hl⟩:=l0 n.toNat 0 [] (by omega) (by omega) (by omega) (fun u u0 u1=>by omega) (.inl rfl)
 refine⟨q,?_,hl⟩
 unfold Qbg.f
 exact Ev.bind (s_from h v0 v1 hd) hq
theorem s_reaches:Ev (fun k=>Qbs.f k n l) (eccs n l n.toNat):=by
 have n1:=h.1
 have n2:=h.2.1
 have loop:∀(d:Nat) (i:Nat),(i:Int)≤n→n-i=d→Ev (fun k=>Qbs.l0 k (eccs n l i) i n l) (eccs n l n.toNat):=by
  intro d
  induction d with
  |zero=>
   intro i h1 hd
   refine ev_k ?_
   simp only[Qbs.l0]
   refine ev_neg (by omega) (ev_some ?_)
   rw[show i=n.toNat by omega]
  |succ d ih=>
   intro i h1 hd
   obtain⟨q,hq,hl⟩:=s_levels h (v:=i) (by omega) (by omega)
   have hs:=(dist_of n l i (by omega)).small
   obtain⟨_,u,u0,u1,e⟩:=ecc_max l n1 n2 i
   have hlen:=(dist_of n l i (by omega)).len
   have lo:=(dist_of n l i (by omega)).low u u0 (by omega)
   have hi:=hs u u0 (by omega)
   have:=ih (i+1) (by omega) (by omega)
   rw[eccs_succ]at this
   refine ev_k ?_
   simp only[Qbs.l0]
   refine ev_pos (by omega) (Ev.bind hq (ev_pos (by rw[eccs_length];omega) ?_))
   rw[hl,w64 (a:=(i:Int)+1) (by omega) (by omega),w64 (a:=ecc n l i+1-1) (by omega) (by omega),Int.add_sub_cancel]
   exact this
 unfold Qbs.f
 exact loop n.toNat 0 (by omega) (by omega)
theorem s_diameter:∃b,Ev (fun k=>Qbx.f k n l) (diam n l,b):=by
 have n1:=h.1
 have n2:=h.2.1
 have hlen:=eccs_length n l n.toNat
 have hmax:=diam_max l n1 n2
 have hs:=s_reaches h
 generalize eccs n l n.toNat=es at *
 have loop:∀(d:Nat) (i a b:Int),0≤i→i≤es.length→es.length-i=d→(∀j,0≤j→j<i→rd es j≤a)→(∃j:Int,(0≤j∧j<es.length)∧a=rd es j)→∃c,Ev (fun k=>Qbx.l0 k es a b i) (diam n l,c):=by
  intro d
  induction d with
  |zero=>
   intro i a b i0 i1 hd h1 h2
   obtain⟨j,hj,e⟩:=h2
   have:a=diam n l:=IsMax.uniq ⟨fun j j0 j1=>h1 j j0 (by omega),j,hj.1,hj.2,e⟩ hmax
   rw[← this]
   refine⟨b,ev_k ?_⟩
   simp only[Qbx.l0]
   exact ev_neg (by omega) (Ev.now _)
  |succ d ih=>
   intro i a b i0 i1 hd h1 h2
   have e:a≤mx a (rd es i)∧rd es i≤mx a (rd es i)∧(mx a (rd es i)=a∨mx a (rd es i)=rd es i):=by
    unfold mx
    split<;>omega
   obtain⟨c,hc⟩:=ih (i+1) (mx a (rd es i)) (mn b (rd es i)) (by omega) (by omega) (by omega) (fun j j0 j1=>by
    by_cases z:j=i
    ·rw[z];omega
    ·have:=h1 j j0 (by omega)
     omega) (by
    rcases e.2.2 with z|z
    ·rw[z];exact h2
    ·exact⟨i,by omega,z⟩)
   refine⟨c,ev_k ?_⟩
   simp only[Qbx.l0]
   rw[w64 (a:=i+1) (by omega) (by omega)]
   exact ev_pos (by omega) (ev_pos i0 hc)
 obtain⟨c,hc⟩:=loop (es.length-1) 1 (rd es 0) (rd es 0) (by omega) (by omega) (by omega) (fun j j0 j1=>by rw[show j=0 by omega];exact Int.le_refl _) ⟨0,by omega,rfl⟩
 refine⟨c,?_⟩
 unfold Qbx.f
 exact Ev.bind hs (ev_pos (by omega) hc)
end
theorem s_in (a b c:Int):Qba.f a b c=some (decide (b≤a∧a≤c)):=by
 unfold Qba.f
 split
 ·exact congrArg some (decide_eq_decide.2 (by omega))
 ·exact congrArg some (decide_eq_false (by omega)).symm
set_option linter.unusedVariables false
theorem s_has (n:Int) (l:List Int) (v w:Int) (v0:0≤v) (v1:v<l.length) (w0:0≤w) (w1:w≤63):Qcc.f n l v w=some (tb (rd l v) w):=by
 unfold Qcc.f
 rw[if_pos v0,if_pos v1,wu64 w0 (by omega),if_pos w0,bit_is w0 w1]
section
variable {n:Int} {l:List Int} (n1:1≤n) (n2:n≤62) (hn:(l.length:Int)=n)
include n1 n2 hn
theorem s_is_l1 (d:Nat):∀v:Int,0≤v→v≤n→n-v=d→Says (fun k=>Qaj.l1 k v n l) (∀a,v≤a→a<n→∀b,0≤b→b<a→tb (rd l a) b=tb (rd l b) a):=by
 induction d with
 |zero=>
  intro v v0 v1 hd
  refine says_k ?_
  simp only[Qaj.l1]
  exact says_neg (by omega) (says_true fun a _ _=>by omega)
 |succ d ih=>
  intro v v0 v1 hd
  have hv:v<n:=by omega
  have inner:∀(e:Nat) (w:Int),0≤w→w≤v→v-w=e→Says (fun k=>Qaj.l2 k v w n l) ((∀b,w≤b→b<v→tb (rd l v) b=tb (rd l b) v)∧∀a,v+1≤a→a<n→∀b,0≤b→b<a→tb (rd l a) b=tb (rd l b) a):=by
   intro e
   induction e with
   |zero=>
    intro w w0 w1 he
    refine says_k ?_
    simp only[Qaj.l2]
    refine says_neg (by omega) ?_
    rw[w64 (a:=v+1) (by omega) (by omega)]
    exact says_iff ⟨fun h=>h.2,fun h=>⟨fun b _ _=>by omega,h⟩⟩ (ih (v+1) (by omega) (by omega) (by omega))
   |succ e ihe=>
    intro w w0 w1 he
    refine says_k ?_
    simp only[Qaj.l2]
    refine says_pos (by omega) ?_
    rw[s_has n l v w v0 (by omega) w0 (by omega),s_has n l w v w0 (by omega) v0 (by omega)]
    simp only[Option.bind_some]
    by_cases h:tb (rd l v) w=tb (rd l w) v
    ·refine says_neg (by simp[h]) ?_
     rw[w64 (a:=w+1) (by omega) (by omega)]
     exact says_iff ⟨fun z=>⟨fun b b0 b1=>z.1 b (by omega) b1,z.2⟩,fun z=>⟨fun b b0 b1=>if hb:b=w then by rw[hb];exact h else z.1 b (by omega) b1,z.2⟩⟩ (ihe (w+1) (by omega) (by omega) (by omega))
    ·exact says_pos (by simp[h]) (says_false fun z=>h (z.1 w (by omega) (by omega)))
  refine says_k ?_
  simp only[Qaj.l1]
  exact says_pos hv (says_iff ⟨fun z=>⟨fun b b0 b1=>z v (by omega) hv b b0 b1,fun a a0 a1=>z a (by omega) a1⟩,fun z a a0 a1 b b0 b1=>if ha:a=v then by subst ha;exact z.1 b b0 b1 else z.2 a (by omega) a1 b b0 b1⟩ (inner v.toNat 0 (by omega) (by omega) (by omega)))
theorem s_is_l0 (d:Nat):∀v:Int,0≤v→v≤n→n-v=d→Says (fun k=>Qaj.l0 k v n l) ((∀a,v≤a→a<n→(0≤rd l a∧rd l a<2 ^ n.toNat)∧tb (rd l a) a=false)∧∀a,0≤a→a<n→∀b,0≤b→b<a→tb (rd l a) b=tb (rd l b) a):=by
 have hp:=two_pow_le (n:=n) (by omega) n2
 induction d with
 |zero=>
  intro v v0 v1 hd
  refine says_k ?_
  simp only[Qaj.l0]
  exact says_neg (by omega) (says_iff ⟨fun h=>h.2,fun h=>⟨fun a _ _=>by omega,h⟩⟩ (s_is_l1 n1 n2 hn n.toNat 0 (by omega) (by omega) (by omega)))
 |succ d ih=>
  intro v v0 v1 hd
  refine says_k ?_
  simp only[Qaj.l0]
  rw[wu64 (a:=n) (by omega) (by omega),shl_one (by omega) n2,w64 (a:=2 ^ n.toNat-1) (by omega) (by omega)]
  refine says_pos (by omega) (says_pos v0 (says_pos (by omega) (says_pos (by omega) ?_)))
  rw[s_in,s_has n l v v v0 (by omega) v0 (by omega)]
  simp only[Option.bind_some]
  by_cases h:0≤rd l v∧rd l v≤2 ^ n.toNat-1
  ·refine says_pos (decide_eq_true h) ?_
   by_cases ht:tb (rd l v) v=true
   ·exact says_pos ht (says_false fun z=>by have:=(z.1 v (by omega) (by omega)).2;rw[ht]at this;cases this)
   ·refine says_neg ht ?_
    rw[w64 (a:=v+1) (by omega) (by omega)]
    refine says_iff ⟨fun z=>⟨fun a a0 a1=>z.1 a (by omega) a1,z.2⟩,fun z=>⟨fun a a0 a1=>if ha:a=v then ?_ else z.1 a (by omega) a1,z.2⟩⟩ (ih (v+1) (by omega) (by omega) (by omega))
    subst ha
    exact⟨by omega,by simpa using ht⟩
  ·exact says_neg (by simpa using h) (says_false fun z=>h (by have:=(z.1 v (by omega) (by omega)).1;omega))
theorem i_is_l1 (v:Int) (v0:0≤v) (v1:v<n) (x:Int) (y3 y4:Int) (y5:List Int) (P:Prop) (hc:Says (fun k=>Qap.l0 k n y5 y3 (wrap64 (y4+1)) n l) P) (d:Nat):∀w:Int,0≤w→w≤n→n-w=d→
  Says (fun k=>Qap.l1 k n v x y5 y3 y4 n w n l) ((∀b,w≤b→b<n→tb x b=tb (rd l b) v)∧P):=by
 induction d with
 |zero=>
  intro w w0 w1 hd
  refine says_k ?_
  simp only[Qap.l1]
  exact says_neg (by omega) (says_iff ⟨fun h=>h.2,fun h=>⟨fun b _ _=>by omega,h⟩⟩ hc)
 |succ d ih=>
  intro w w0 w1 hd
  refine says_k ?_
  simp only[Qap.l1]
  refine says_pos (by omega) (says_pos w0 (says_pos (by omega) (says_pos v0 ?_)))
  by_cases h:tb x w=tb (rd l w) v
  ·refine says_pos ((bit_eq w0 (by omega) v0 (by omega)).2 h) ?_
   rw[w64 (a:=w+1) (by omega) (by omega)]
   exact says_iff ⟨fun z=>⟨fun b b0 b1=>z.1 b (by omega) b1,z.2⟩,fun z=>⟨fun b b0 b1=>if hb:b=w then by rw[hb];exact h else z.1 b (by omega) b1,z.2⟩⟩ (ih (w+1) (by omega) (by omega) (by omega))
  ·exact says_neg (fun z=>h ((bit_eq w0 (by omega) v0 (by omega)).1 z)) (says_false fun z=>h (z.1 w (by omega) (by omega)))
theorem i_is_l0 (d:Nat):∀v:Int,0≤v→v≤n→n-v=d→Says (fun k=>Qap.l0 k n l n v n l) (∀a,v≤a→a<n→((0≤rd l a∧rd l a<2 ^ n.toNat)∧tb (rd l a) a=false)∧∀b,0≤b→b<n→tb (rd l a) b=tb (rd l b) a):=by
 induction d with
 |zero=>
  intro v v0 v1 hd
  refine says_k ?_
  simp only[Qap.l0]
  exact says_neg (by omega) (says_true fun a _ _=>by omega)
 |succ d ih=>
  intro v v0 v1 hd
  have hv:v<n:=by omega
  have ih:=ih (v+1) (by omega) (by omega) (by omega)
  have bad:∀(P:Prop),¬P→Says (fun k=>Qap.j2 k n v (rd l v) l n v true n l) P:=fun P hP=>by
   refine says_k ?_
   simp only[Qap.j2]
   exact says_pos trivial (says_false hP)
  refine says_k ?_
  simp only[Qap.l0]
  refine says_pos hv (says_pos v0 (says_pos (by omega) ?_))
  by_cases h0:rd l v<0
  ·exact says_pos h0 (bad _ fun z=>by have:=(z v (by omega) hv).1.1;omega)
  ·refine says_neg h0 (says_pos (by omega) ?_)
   rw[shl_one (by omega) n2]
   by_cases h1:rd l v≥2 ^ n.toNat
   ·exact says_pos h1 (bad _ fun z=>by have:=(z v (by omega) hv).1.1;omega)
   ·refine says_neg h1 ?_
    rw[bit_is v0 (by omega)]
    cases ht:tb (rd l v) v with
    |true=>exact bad _ fun z=>by have:=(z v (by omega) hv).1.2;rw[ht]at this;cases this
    |false=>
     refine says_k ?_
     simp only[Qap.j2]
     refine says_neg (by decide) ?_
     refine says_iff ?_ (i_is_l1 n1 n2 hn v v0 hv (rd l v) n v l _ (by rw[w64 (a:=v+1) (by omega) (by omega)];exact ih) n.toNat 0 (by omega) (by omega) (by omega))
     exact⟨fun z=>⟨(z v (by omega) hv).2,fun a a0 a1=>z a (by omega) a1⟩,fun z a a0 a1=>if ha:a=v then by subst ha;exact⟨⟨by omega,ht⟩,z.1⟩else z.2 a (by omega) a1⟩
end
theorem s_is (n:Int) (l:List Int):Says (fun k=>Qaj.f k n l) (isG n l):=by
 have bad:¬isG n l→Says (fun k=>Qaj.j0 k true n l) (isG n l):=fun h=>by
  refine says_k ?_
  simp only[Qaj.j0]
  exact says_pos trivial (says_false h)
 unfold Qaj.f
 rw[s_in]
 simp only[Option.bind_some]
 by_cases h1:1≤n∧n≤62
 ·refine says_pos (decide_eq_true h1) ?_
  by_cases h2:(l.length:Int)=n
  ·refine says_k ?_
   simp only[Qaj.j0]
   refine says_neg (by simp[h2]) ?_
   refine says_iff ?_ (s_is_l0 h1.1 h1.2 h2 n.toNat 0 (by omega) (by omega) (by omega))
   constructor
   ·exact fun⟨⟨_,_,_,r⟩,lo,sy⟩=>⟨fun a a0 a1=>⟨r a a0 a1,lo a a0 a1⟩,fun a a0 a1 b b0 b1=>sy a b a0 a1 b0 (by omega)⟩
   ·intro⟨z,sy⟩
    refine⟨⟨h1.1,h1.2,h2,fun a a0 a1=>(z a a0 a1).1⟩,fun a a0 a1=>(z a a0 a1).2,fun a b a0 a1 b0 b1=>?_⟩
    rcases Int.lt_trichotomy a b with h|h|h
    ·exact(sy b b0 b1 a a0 h).symm
    ·rw[h]
    ·exact sy a a0 a1 b b0 h
  ·rw[show((l.length:Int)!=n)=true by simpa using h2]
   exact bad fun z=>h2 z.1.2.2.1
 ·exact says_neg (by simpa using h1) (bad fun z=>h1 ⟨z.1.1,z.1.2.1⟩)
theorem i_is (n:Int) (l:List Int):Says (fun k=>Qap.f k n l) (isG n l):=by
 have bad:¬isG n l→Says (fun k=>Qap.j0 k n true n l) (isG n l):=fun h=>by
  refine says_k ?_
  simp only[Qap.j0]
  exact says_pos trivial (says_false h)
 unfold Qap.f
 by_cases h1:n<1
 ·exact says_pos h1 (bad fun z=>by have:=z.1.1;omega)
 ·refine says_neg h1 ?_
  by_cases h2:n>62
  ·exact says_pos h2 (bad fun z=>by have:=z.1.2.1;omega)
  ·refine says_neg h2 ?_
   by_cases h3:(l.length:Int)=n
   ·refine says_k ?_
    simp only[Qap.j0]
    refine says_neg (by simp[h3]) ?_
    have:=i_is_l0 (n:=n) (l:=l) (by omega) (by omega) h3 n.toNat 0 (by omega) (by omega) (by omega)
    rw[h3]
    refine says_iff ?_ this
    constructor
    ·exact fun⟨⟨_,_,_,r⟩,lo,sy⟩ a a0 a1=>⟨⟨r a a0 a1,lo a a0 a1⟩,fun b b0 b1=>sy a b a0 a1 b0 b1⟩
    ·exact fun z=>⟨⟨by omega,by omega,h3,fun a a0 a1=>(z a a0 a1).1.1⟩,fun a a0 a1=>(z a a0 a1).1.2,fun a b a0 a1 b0 b1=>(z a a0 a1).2 b b0 b1⟩
   ·rw[show((l.length:Int)!=n)=true by simpa using h3]
    exact bad fun z=>h3 z.1.2.2.1
theorem full_rw {n:Int} (n0:0≤n) (n2:n≤62):Is n (2 ^ n.toNat-1) (fun _=>True):=by
 have e:((2:Int) ^ n.toNat)=((2 ^ n.toNat:Nat):Int):=by simp
 have p:=two_pow_le n0 n2
 have q:(2:Int) ^ n.toNat-1=((2 ^ n.toNat-1:Nat):Int):=by
  have:1≤2 ^ n.toNat:=Nat.one_le_two_pow
  omega
 refine⟨⟨by omega,by omega⟩,fun u u0 u1=>⟨fun _=>trivial,fun _=>?_⟩⟩
 rw[q,tb_toNat (by omega) u0,Int.toNat_natCast,Nat.testBit_two_pow_sub_one]
 exact decide_eq_true (by omega)
theorem i_all {n:Int} (n0:0≤n) (n2:n≤62):Qda.f n=some (2 ^ n.toNat-1):=by
 have p:=two_pow_le n0 n2
 unfold Qda.f
 rw[if_pos n0,shl_one n0 n2,w64 (by omega) (by omega)]
theorem Is.eq {n x y:Int} {P Q:Int→Prop} (n0:0≤n) (hx:Is n x P) (hy:Is n y Q) (e:∀u,0≤u→u<n→(P u↔Q u)):x=y:=
 tb_ext hx.1.1 hx.1.2 hy.1.1 hy.1.2 n0 fun i i0 i1=>Bool.eq_iff_iff.2 ((hx.2 i i0 i1).trans ((e i i0 i1).trans (hy.2 i i0 i1).symm))
section
variable {n:Int} {l:List Int} (h:rows n l) {s:Int} (s0:0≤s) (s1:s<n) {r:List Int} (hr:Dist n l s r)
include h hr
theorem i_part_l0 (e:Nat):∀(d:Nat) (S L:Int),(62:Int)-d=e→Is n S (fun u=>0≤rd r u∧rd r u≤d)→Is n L (fun u=>rd r u=d)→∃X,Is n X (fun u=>0≤rd r u)∧Ev (fun k=>Qbm.l0 k S L n l) X:=by
 have n2:=h.2.1
 have hl:=h.2.2.1
 have n0:0≤n:=by have:=h.1;omega
 have stop:∀(d:Nat) (S:Int),Is n S (fun u=>0≤rd r u∧rd r u≤d)→(∀u,0≤u→u<n→rd r u≠d)→∃X,Is n X (fun u=>0≤rd r u)∧Ev (fun k=>Qbm.l0 k S 0 n l) X:=by
  intro d S hS hno
  refine⟨S,hS.imp fun u u0 u1=>?_,ev_k ?_⟩
  ·have a:=hr.stops d (by omega) hno u u0 u1
   omega
  ·simp only[Qbm.l0]
   exact ev_pos trivial (Ev.now _)
 induction e with
 |zero=>
  intro d S L he hS hL
  have hno:∀u,0≤u→u<n→rd r u≠d:=fun u u0 u1=>by have:=hr.small u u0 u1;omega
  have:L=0:=(hL.1.eq_zero n0).2 fun w w0 w1 z=>hno w w0 w1 ((hL.2 w w0 w1).1 z)
  subst this
  exact stop d S hS hno
 |succ e ih=>
  intro d S L he hS hL
  by_cases hz:L=0
  ·subst hz
   exact stop d S hS fun u u0 u1 z=>(hL.1.eq_zero n0).1 rfl u u0 u1 ((hL.2 u u0 u1).2 z)
  ·have hp:=two_pow_le (n:=n) n0 n2
   have inner:∀(ws pre:List Int) (X:Int),pre++ws=ones L→Is n X (fun u=>∃w,w ∈ pre∧tb (rd l w) u=true)→∃Y,Is n Y (fun u=>0≤rd r u)∧Ev (fun k=>Qbm.l1 k S X (ones L) (ones L).length pre.length n l) Y:=by
    intro ws
    have ol:=ones_length L
    have om:=fun v=>ones_mem n0 n2 hL.1.1 hL.1.2 v
    induction ws with
    |nil=>
     intro pre X hpre hX
     rw[List.append_nil]at hpre
     subst hpre
     have hX2:Is n X fun u=>∃w,(0≤w∧w<n)∧rd r w=d∧tb (rd l w) u=true:=hX.imp fun u u0 u1=>by
      constructor
      ·rintro⟨w,hw,ht⟩
       obtain⟨a,b,c⟩:=(om w).1 hw
       exact⟨w,⟨a,b⟩,(hL.2 w a b).1 c,ht⟩
      ·rintro⟨w,⟨a,b⟩,c,ht⟩
       exact⟨w,(om w).2 ⟨a,b,(hL.2 w a b).2 c⟩,ht⟩
     have o:=or_rw n2 hS.1 hX.1
     have q:=andNot_rw n2 hX.1 hS.1
     obtain⟨Y,hY,hE⟩:=ih (d+1) (bits .or .i64 S X) (bits .andNot .i64 X S) (by omega) ⟨o.1,fun u u0 u1=>by
      rw[o.2 u u0]
      exact((level_next hr (by omega) hX2 u u0 u1 (hS.2 u u0 u1)).1).trans (by omega)⟩ ⟨q.1,fun u u0 u1=>by
      rw[q.2 u u0]
      exact((level_next hr (by omega) hX2 u u0 u1 (hS.2 u u0 u1)).2).trans (by omega)⟩
     refine⟨Y,hY,ev_k ?_⟩
     simp only[Qbm.l1]
     exact ev_neg (by omega) hE
    |cons w ws ihw=>
     intro pre X hpre hX
     have hlt:pre.length<(ones L).length:=by rw[← hpre];simp
     have hw:rd (ones L) pre.length=w:=by
      rw[← hpre]
      simp[rd,List.getD_eq_getElem?_getD]
     obtain⟨w0,w1,wt⟩:=(om w).1 (by rw[← hpre];simp)
     have o:=or_rw n2 hX.1 (h.2.2.2 w w0 w1)
     obtain⟨Y,hY,hE⟩:=ihw (pre++[w]) (bits .or .i64 X (rd l w)) (by rw[← hpre];simp) ⟨o.1,fun u u0 u1=>by
      rw[o.2 u u0,hX.2 u u0 u1]
      constructor
      ·rintro(⟨x,hx,ht⟩|ht)
       ·exact⟨x,by simp[hx],ht⟩
       ·exact⟨w,by simp,ht⟩
      ·rintro⟨x,hx,ht⟩
       rcases List.mem_append.1 hx with hx|hx
       ·exact .inl ⟨x,hx,ht⟩
       ·obtain rfl:x=w:=by simpa using hx
        exact .inr ht⟩
     refine⟨Y,hY,ev_k ?_⟩
     simp only[Qbm.l1,hw]
     refine ev_pos (by omega) (ev_pos (by omega) (ev_pos (by omega) (ev_pos w0 (ev_pos (by omega) ?_))))
     rw[w64 (a:=(pre.length:Int)+1) (by omega) (by omega)]
     simpa using hE
   obtain⟨Y,hY,hE⟩:=inner (ones L) [] 0 (by simp) ⟨(zero_rw n).1,fun u u0 u1=>⟨fun z=>absurd z ((zero_rw n).2 u),fun⟨w,hw,_⟩=>by cases hw⟩⟩
   refine⟨Y,hY,ev_k ?_⟩
   simp only[Qbm.l0]
   exact ev_neg hz (Ev.bind (i_list hL.1.1 (by have:=hL.1.2;omega)) (by simpa using hE))
include s0 s1
theorem i_part:∃X,Is n X (fun u=>0≤rd r u)∧Ev (fun k=>Qbm.f k n l s) X:=by
 have n2:=h.2.1
 obtain⟨o1,o2⟩:=one_rw n2 s0 s1
 obtain⟨X,hX,hE⟩:=i_part_l0 h hr 62 0 (shl .i64 1 s) (shl .i64 1 s) (by omega) ⟨o1,fun u u0 u1=>by
  rw[o2 u u0,← hr.src u u0 u1]
  omega⟩ ⟨o1,fun u u0 u1=>by
  rw[o2 u u0,← hr.src u u0 u1]
  omega⟩
 refine⟨X,hX,?_⟩
 unfold Qbm.f
 exact ev_pos s0 hE
end
def joinedG (n:Int) (l:List Int):Prop:=∀u,0≤u→u<n→0≤rd (dist n l 0) u
theorem i_connected {n:Int} {l:List Int} (h:rows n l):Says (fun k=>Qcg.f k n l) (joinedG n l):=by
 have n1:=h.1
 have n2:=h.2.1
 obtain⟨X,hX,hE⟩:=i_part h (s:=0) (by omega) (by omega) (dist_of n l 0 (by omega))
 unfold Qcg.f
 refine says_bind hE ?_
 rw[i_all (by omega) n2]
 simp only[Option.bind_some]
 refine says_iff ?_ (says_now _)
 rw[beq_iff_eq]
 have hf:=full_rw (n:=n) (by omega) n2
 constructor
 ·intro z
  exact hX.eq (by omega) hf fun u u0 u1=>⟨fun _=>trivial,fun _=>z u u0 u1⟩
 ·intro z u u0 u1
  exact(hX.2 u u0 u1).1 (by rw[z];exact(hf.2 u u0 u1).2 trivial)
theorem s_connected {n:Int} {l:List Int} (h:rows n l):Says (fun k=>Qbt.f k n l) (joinedG n l):=by
 have n1:=h.1
 have n2:=h.2.1
 have hd:=dist_of n l 0 (by omega)
 have hlen:=hd.len
 have loop:∀(d:Nat) (i:Int),0≤i→i≤n→n-i=d→Says (fun k=>Qbt.l0 k (dist n l 0) i) (∀u,i≤u→u<n→0≤rd (dist n l 0) u):=by
  intro d
  induction d with
  |zero=>
   intro i i0 i1 hd
   refine says_k ?_
   simp only[Qbt.l0]
   exact says_neg (by omega) (says_true fun u _ _=>by omega)
  |succ d ih=>
   intro i i0 i1 hd
   refine says_k ?_
   simp only[Qbt.l0]
   refine says_pos (by omega) (says_pos i0 ?_)
   by_cases z:rd (dist n l 0) i<0
   ·exact says_pos z (says_false fun y=>by have:=y i (by omega) (by omega);omega)
   ·refine says_neg z ?_
    rw[w64 (a:=i+1) (by omega) (by omega)]
    exact says_iff ⟨fun y u u0 u1=>y u (by omega) u1,fun y u u0 u1=>if q:u=i then by rw[q];omega else y u (by omega) u1⟩ (ih (i+1) (by omega) (by omega) (by omega))
 unfold Qbt.f
 exact says_bind (s_from h (by omega) (by omega) hd) (loop n.toNat 0 (by omega) (by omega) (by omega))
theorem connCodes (n:Int) (l:List Int):∃c,Ev (fun k=>Qbz.f k n l) c∧Ev (fun k=>Qbw.f k n l) c∧(c=0↔isG n l∧joinedG n l):=by
 unfold Qbz.f Qbw.f
 by_cases hg:isG n l
 ·by_cases hc:joinedG n l
  ·exact⟨0,Ev.bind ((s_is n l).yes hg) (ev_pos rfl (Ev.bind ((s_connected hg.1).yes hc) (ev_pos rfl (Ev.now _)))),Ev.bind ((i_is n l).yes hg) (ev_pos rfl (Ev.bind ((i_connected hg.1).yes hc) (ev_pos rfl (Ev.now _)))),by simp[hg,hc]⟩
  ·exact⟨5,Ev.bind ((s_is n l).yes hg) (ev_pos rfl (Ev.bind ((s_connected hg.1).no hc) (ev_neg (by decide) (Ev.now _)))),Ev.bind ((i_is n l).yes hg) (ev_pos rfl (Ev.bind ((i_connected hg.1).no hc) (ev_neg (by decide) (Ev.now _)))),by simp[hc]⟩
 ·exact⟨1,Ev.bind ((s_is n l).no hg) (ev_neg (by decide) (Ev.now _)),Ev.bind ((i_is n l).no hg) (ev_neg (by decide) (Ev.now _)),by simp[hg]⟩
def Rc (n:Int) (l:List Int) (u v:Int):Prop:=0≤rd (dist n l u) v
theorem Rc_iff {n:Int} {l:List Int} (n0:0≤n) {u v:Int} (v0:0≤v) (v1:v<n):Rc n l u v↔∃k,Wk n l u k v:=by
 unfold Rc
 rcases(distL n l u n0).2 v v0 v1 with⟨e,h⟩|⟨d,e,h⟩
 ·rw[e]
  exact⟨fun z=>by omega,fun⟨k,hk⟩=>absurd hk (h k)⟩
 ·rw[e]
  exact⟨fun _=>⟨d,h.1⟩,fun _=>by omega⟩
theorem Wk.join {n:Int} {l:List Int} {u v:Int} {k:Nat} (h:Wk n l u k v):∀(j:Nat) (w:Int),Wk n l v j w→Wk n l u (k+j) w:=by
 intro j
 induction j with
 |zero=>intro w hw;cases hw;exact h
 |succ j ih=>
  rintro w ⟨hw,x,hx,hj,ht⟩
  exact⟨hw,x,hx,ih x hj,ht⟩
theorem Rc.trans {n:Int} {l:List Int} {u v w:Int} (v0:0≤v) (v1:v<n) (w0:0≤w) (w1:w<n) (h:Rc n l u v) (g:Rc n l v w):Rc n l u w:=by
 obtain⟨k,hk⟩:=(Rc_iff (by omega) v0 v1).1 h
 obtain⟨j,hj⟩:=(Rc_iff (by omega) w0 w1).1 g
 exact(Rc_iff (by omega) w0 w1).2 ⟨_,hk.join j w hj⟩
theorem Rc.symm {n:Int} {l:List Int} (h:isG n l) {u v:Int} (u0:0≤u) (u1:u<n) (v0:0≤v) (v1:v<n) (g:Rc n l u v):Rc n l v u:=by
 unfold Rc at *
 rw[dist_sym h v0 v1 u0 u1]
 exact g
theorem a_own (l:List Int) (hl:l.length≤1048576):Qbr.f l=some l:=by
 unfold Qbr.f
 simp only[Option.bind_some,List.nil_append]
 rw[if_pos (by simp;omega)]
def cn (r ws:List Int) (t:Int):Int:=((ws.filter fun u=>decide (rd r u=t)).length:Nat)
theorem cn_range (r ws:List Int) (t:Int):0≤cn r ws t∧cn r ws t≤ws.length:=by
 have:=List.length_filter_le (fun u=>decide (rd r u=t)) ws
 unfold cn
 omega
theorem cn_app (r a b:List Int) (t:Int):cn r (a++b) t=cn r a t+cn r b t:=by
 unfold cn
 rw[List.filter_append,List.length_append]
 omega
theorem cn_one (r:List Int) (u t:Int):cn r [u] t=if rd r u=t then 1 else 0:=by
 unfold cn
 by_cases h:rd r u=t<;>simp[h]
theorem cn_nil (r:List Int) (t:Int):cn r [] t=0:=rfl
theorem cn_pos {r ws:List Int} {t:Int} (h:∃u ∈ ws,rd r u=t):0<cn r ws t:=by
 obtain⟨u,hu,e⟩:=h
 have:u ∈ ws.filter fun u=>decide (rd r u=t):=List.mem_filter.2 ⟨hu,by simpa using e⟩
 have:=List.length_pos_of_mem this
 unfold cn
 omega
theorem cn_zero {r ws:List Int} {t:Int} (h:∀u ∈ ws,rd r u≠t):cn r ws t=0:=by
 unfold cn
 rw[List.filter_eq_nil_iff.2 fun u hu=>by simpa using h u hu]
 rfl
noncomputable def upN (n:Int) (l:List Int) (v w:Int):Int:=cn (dist n l v) (ones (rd l w)) (rd (dist n l v) w+1)
noncomputable def dnN (n:Int) (l:List Int) (v w:Int):Int:=cn (dist n l v) (ones (rd l w)) (rd (dist n l v) w-1)
def DR (n:Int) (l:List Int):Prop:=∀v w a b,((0≤v∧v<n)∧(0≤w∧w<n))→((0≤a∧a<n)∧(0≤b∧b<n))→rd (dist n l v) w=rd (dist n l a) b→upN n l v w=upN n l a b∧dnN n l v w=dnN n l a b
def IsB (n:Int) (l b:List Int):Prop:=(b.length:Int)=diam n l∧∀v w,((0≤v∧v<n)∧(0≤w∧w<n))→rd (dist n l v) w<diam n l→rd b (rd (dist n l v) w)=upN n l v w
def IsC (n:Int) (l c:List Int):Prop:=(c.length:Int)=diam n l∧∀v w,((0≤v∧v<n)∧(0≤w∧w<n))→0<rd (dist n l v) w→rd c (rd (dist n l v) w-1)=dnN n l v w
def Found (n:Int) (l:List Int) (p:List Int × List Int × Bool):Prop:=(p.2.2=true∧DR n l∧IsB n l p.1∧IsC n l p.2.1)∨(p=([],[],false)∧¬DR n l)
section
variable {n:Int} {l:List Int} (h:isG n l) (hj:joinedG n l)
include h hj
theorem joined_all {v u:Int} (v0:0≤v) (v1:v<n) (u0:0≤u) (u1:u<n):0≤rd (dist n l v) u:=by
 have a:Rc n l 0 v:=hj v v0 v1
 have b:Rc n l 0 u:=hj u u0 u1
 have n1:=h.1.1
 exact Rc.trans (by omega) (by omega) u0 u1 (Rc.symm h (by omega) (by omega) v0 v1 a) b
omit hj in
theorem level_at {i:Int} (i0:0≤i) (i1:i≤diam n l):∃v w,((0≤v∧v<n)∧(0≤w∧w<n))∧rd (dist n l v) w=i:=by
 obtain⟨v,u,⟨hv,hu⟩,e⟩:=diam_at l h.1.1 h.1.2.1
 have hd:=dist_of n l v (by omega)
 obtain⟨w,hw,f⟩:=hd.level (diam n l).toNat u hu.1 hu.2 (by omega) i.toNat (by omega)
 exact⟨v,w,⟨hv,hw⟩,by omega⟩
omit hj in
theorem up_some {i:Int} (i0:0≤i) (i1:i<diam n l):∃v w,((0≤v∧v<n)∧(0≤w∧w<n))∧rd (dist n l v) w=i∧0<upN n l v w:=by
 have n2:=h.1.2.1
 obtain⟨v,u,⟨hv,hu⟩,e⟩:=level_at h (by omega:0≤i+1) (by omega)
 have hd:=dist_of n l v (by omega)
 obtain⟨⟨w,hw,f,ht⟩,_⟩:=(hd.next i u i0 hu.1 hu.2).1 e
 have hr:=h.1.2.2.2 w hw.1 hw.2
 exact⟨v,w,⟨hv,hw⟩,f,cn_pos ⟨u,(ones_mem (by omega) n2 hr.1 hr.2 u).2 ⟨hu.1,hu.2,ht⟩,by rw[f];exact e⟩⟩
omit hj in
theorem dn_pos {v w:Int} (hv:0≤v∧v<n) (hw:0≤w∧w<n) (hp:0<rd (dist n l v) w):0<dnN n l v w:=by
 have n2:=h.1.2.1
 have hd:=dist_of n l v (by omega)
 obtain⟨⟨u,hu,f,ht⟩,_⟩:=(hd.next (rd (dist n l v) w-1) w (by omega) hw.1 hw.2).1 (by omega)
 have hr:=h.1.2.2.2 w hw.1 hw.2
 exact cn_pos ⟨u,(ones_mem (by omega) n2 hr.1 hr.2 u).2 ⟨hu.1,hu.2,by rw[h.2.2 w u hw.1 hw.2 hu.1 hu.2];exact ht⟩,f⟩
omit hj in
theorem up_end {v w:Int} (hv:0≤v∧v<n) (hw:0≤w∧w<n) (hp:rd (dist n l v) w=diam n l):upN n l v w=0:=by
 have n2:=h.1.2.1
 have hr:=h.1.2.2.2 w hw.1 hw.2
 refine cn_zero fun u hu e=>?_
 obtain⟨u0,u1,_⟩:=(ones_mem (n:=n) (by omega) n2 hr.1 hr.2 u).1 hu
 have:=diam_le l h.1.1 n2 hv.1 hv.2 u0 u1
 omega
theorem dn_end {v w:Int} (hv:0≤v∧v<n) (hw:0≤w∧w<n) (hp:rd (dist n l v) w=0):dnN n l v w=0:=by
 have n2:=h.1.2.1
 have hr:=h.1.2.2.2 w hw.1 hw.2
 refine cn_zero fun u hu e=>?_
 obtain⟨u0,u1,_⟩:=(ones_mem (n:=n) (by omega) n2 hr.1 hr.2 u).1 hu
 have:=joined_all h hj hv.1 hv.2 u0 u1
 omega
omit hj in
theorem Found.uniq {p q:List Int × List Int × Bool} (hp:Found n l p) (hq:Found n l q):p=q:=by
 obtain⟨b,c,o⟩:=p
 obtain⟨b',c',o'⟩:=q
 rcases hp with⟨ho,hd,hb,hc⟩|⟨e,hd⟩<;>rcases hq with⟨ho',hd',hb',hc'⟩|⟨e',hd'⟩
 ·simp only[]at ho ho' hb hc hb' hc'
  have e1:b=b':=rd_ext (by have:=hb.1;have:=hb'.1;omega) fun i i0 i1=>by
   obtain⟨v,w,hvw,e⟩:=level_at h i0 (by have:=hb.1;omega)
   have x:=hb.2 v w hvw (by have:=hb.1;omega)
   have y:=hb'.2 v w hvw (by have:=hb.1;omega)
   rw[e]at x y
   rw[x,y]
  have e2:c=c':=rd_ext (by have:=hc.1;have:=hc'.1;omega) fun i i0 i1=>by
   obtain⟨v,w,hvw,e⟩:=level_at h (by omega:0≤i+1) (by have:=hc.1;omega)
   have x:=hc.2 v w hvw (by omega)
   have y:=hc'.2 v w hvw (by omega)
   rw[e,Int.add_sub_cancel]at x y
   rw[x,y]
  rw[e1,e2,ho,ho']
 ·exact absurd hd hd'
 ·exact absurd hd' hd
 ·rw[e,e']
def Pr (n v w a b:Int):Prop:=((0≤a∧a<n)∧(0≤b∧b<n))∧(a<v∨(a=v∧b<w))
omit h hj in
theorem Pr_next {v w a b:Int}:Pr n v (w+1) a b↔Pr n v w a b∨(((0≤v∧v<n)∧(0≤w∧w<n))∧a=v∧b=w):=by
 unfold Pr
 omega
def InvS (n:Int) (l:List Int) (v w:Int) (up dn:List Int):Prop:=((up.length:Int)=diam n l+1∧(dn.length:Int)=diam n l+1)∧∀i,0≤i→i≤diam n l→(rd up i=-1∧∀a b,Pr n v w a b→rd (dist n l a) b≠i)∨((∃a b,Pr n v w a b∧rd (dist n l a) b=i∧rd up i=upN n l a b∧rd dn i=dnN n l a b)∧∀a b,Pr n v w a b→rd (dist n l a) b=i→upN n l a b=rd up i∧dnN n l a b=rd dn i)
theorem s_arrays:∃p,Found n l p∧(p.1.length≤62∧p.2.1.length≤62)∧Ev (fun k=>Qac.f k n l) p:=by
 have n1:=h.1.1
 have n2:=h.1.2.1
 have hl:=h.1.2.2.1
 have hdl:=dists_length n l n.toNat
 obtain⟨bb,hdm⟩:=s_diameter h.1
 have hD0:0≤diam n l:=by
  obtain⟨v,u,⟨hv,hu⟩,e⟩:=diam_at l n1 n2
  have:=joined_all h hj hv.1 hv.2 hu.1 hu.2
  omega
 have hD1:diam n l<n:=by
  obtain⟨v,u,⟨hv,hu⟩,e⟩:=diam_at l n1 n2
  have:=(dist_of n l v (by omega)).small u hu.1 hu.2
  omega
 have main:∀(d:Nat) (v:Int) (up dn:List Int),0≤v→v≤n→n-v=d→InvS n l v 0 up dn→∃p,Found n l p∧(p.1.length≤62∧p.2.1.length≤62)∧Ev (fun k=>Qac.l1 k (dists n l n.toNat) (diam n l) up dn v n l) p:=by
  intro d
  induction d with
  |zero=>
   intro v up dn v0 v1 hd hI
   obtain⟨⟨lu,ld⟩,hI⟩:=hI
   obtain rfl:v=n:=by omega
   have hall:∀a b,((0≤a∧a<v)∧(0≤b∧b<v))→upN v l a b=rd up (rd (dist v l a) b)∧dnN v l a b=rd dn (rd (dist v l a) b):=fun a b hab=>by
    have x0:=joined_all h hj hab.1.1 hab.1.2 hab.2.1 hab.2.2
    have x1:=diam_le l n1 n2 hab.1.1 hab.1.2 hab.2.1 hab.2.2
    rcases hI _ x0 x1 with⟨_,z⟩|⟨_,z⟩
    ·exact absurd rfl (z a b ⟨hab,by omega⟩)
    ·exact z a b ⟨hab,by omega⟩ rfl
   refine⟨(up.take (diam v l).toNat,dn.drop 1,true),.inl ⟨rfl,fun a b a' b' hab hab' e=>?_,⟨by simp;omega,fun a b hab hlt=>?_⟩,⟨by simp;omega,fun a b hab hlt=>?_⟩⟩,⟨by simp;omega,by simp;omega⟩,ev_k ?_⟩
   ·rw[(hall a b hab).1,(hall a b hab).2,(hall a' b' hab').1,(hall a' b' hab').2,e]
    exact⟨rfl,rfl⟩
   ·have x0:=joined_all h hj hab.1.1 hab.1.2 hab.2.1 hab.2.2
    rw[(hall a b hab).1]
    simp only[rd,List.getD_eq_getElem?_getD]
    rw[List.getElem?_take_of_lt (by simp only[rd,List.getD_eq_getElem?_getD]at hlt x0;omega)]
   ·rw[(hall a b hab).2]
    generalize rd (dist v l a) b=i at hlt
    simp only[rd,List.getD_eq_getElem?_getD,List.getElem?_drop]
    rw[show 1+(i-1).toNat=i.toNat by omega]
   ·simp only[Qac.l1]
    refine ev_neg (by omega) (ev_pos hD0 (ev_pos (by omega) ?_))
    rw[a_own _ (by simp;omega),a_own _ (by simp;omega)]
    simp only[Option.bind_some]
    exact ev_pos (by omega) (Ev.now _)
  |succ d ih=>
   intro v up dn v0 v1 hd hI
   have hv:=rd_dists l v0 (by omega:v<n)
   have hvl:=(dist_of n l v (by omega)).len
   have inner:∀(e:Nat) (w:Int) (up dn:List Int),0≤w→w≤n→n-w=e→InvS n l v w up dn→∃p,Found n l p∧(p.1.length≤62∧p.2.1.length≤62)∧Ev (fun k=>Qac.l2 k (dists n l n.toNat) (diam n l) up dn v w n l) p:=by
    intro e
    induction e with
    |zero=>
     intro w up dn w0 w1 he hI
     obtain⟨p,hp,hpl,hE⟩:=ih (v+1) up dn (by omega) (by omega) (by omega) (by
      have hP:∀a b,Pr n (v+1) 0 a b↔Pr n v w a b:=fun a b=>by unfold Pr;omega
      refine⟨hI.1,fun i i0 i1=>?_⟩
      rcases hI.2 i i0 i1 with⟨x,y⟩|⟨⟨a,b,x,y⟩,z⟩
      ·exact .inl ⟨x,fun a b q=>y a b ((hP a b).1 q)⟩
      ·exact .inr ⟨⟨a,b,(hP a b).2 x,y⟩,fun a b q=>z a b ((hP a b).1 q)⟩)
     refine⟨p,hp,hpl,ev_k ?_⟩
     simp only[Qac.l2]
     rw[w64 (a:=v+1) (by omega) (by omega)]
     exact ev_neg (by omega) hE
    |succ e ihe=>
     intro w up dn w0 w1 he hI
     have hrow:=h.1.2.2.2 w w0 (by omega)
     have hvw:(0≤v∧v<n)∧(0≤w∧w<n):=by omega
     have i0:=joined_all h hj v0 hvw.1.2 w0 hvw.2.2
     have i1:=diam_le l n1 n2 v0 hvw.1.2 w0 hvw.2.2
     have hto:=ones_to (n:=n) (by omega) n2 hrow.1 hrow.2
     have fin:∃p,Found n l p∧(p.1.length≤62∧p.2.1.length≤62)∧Ev (fun k=>Qac.l3 k (dists n l n.toNat) (diam n l) up dn v w (rd (dist n l v) w) (upN n l v w) (dnN n l v w) n n l) p:=by
      have next:(∀a b,Pr n v w a b→rd (dist n l a) b=rd (dist n l v) w→upN n l a b=upN n l v w∧dnN n l a b=dnN n l v w)→∃p,Found n l p∧(p.1.length≤62∧p.2.1.length≤62)∧Ev (fun k=>Qac.l2 k (dists n l n.toNat) (diam n l) (up.set (rd (dist n l v) w).toNat (upN n l v w)) (dn.set (rd (dist n l v) w).toNat (dnN n l v w)) v (w+1) n l) p:=by
       intro same
       obtain⟨⟨lu,ld⟩,hI⟩:=hI
       refine ihe (w+1) _ _ (by omega) (by omega) (by omega) ⟨⟨by simpa using lu,by simpa using ld⟩,fun i j0 j1=>?_⟩
       rw[rd_set _ i0 (by omega) j0,rd_set _ i0 (by omega) j0]
       by_cases z:i=rd (dist n l v) w
       ·rw[if_pos z,if_pos z]
        refine .inr ⟨⟨v,w,Pr_next.2 (.inr ⟨hvw,rfl,rfl⟩),z.symm,rfl,rfl⟩,fun a b q e=>?_⟩
        rcases Pr_next.1 q with q|⟨_,rfl,rfl⟩
        ·exact same a b q (e.trans z)
        ·exact⟨rfl,rfl⟩
       ·rw[if_neg z,if_neg z]
        rcases hI i j0 j1 with⟨x,y⟩|⟨⟨a,b,x,y⟩,t⟩
        ·refine .inl ⟨x,fun a b q e=>?_⟩
         rcases Pr_next.1 q with q|⟨_,rfl,rfl⟩
         ·exact y a b q e
         ·exact z e.symm
        ·refine .inr ⟨⟨a,b,Pr_next.2 (.inl x),y⟩,fun a b q e=>?_⟩
         rcases Pr_next.1 q with q|⟨_,rfl,rfl⟩
         ·exact t a b q e
         ·exact absurd e.symm z
      have lu:=hI.1.1
      have ld:=hI.1.2
      rcases hI.2 _ i0 i1 with⟨x,y⟩|⟨⟨a,b,x,e1,e2,e3⟩,t⟩
      ·obtain⟨p,hp,hpl,hE⟩:=next fun a b q e=>absurd e (y a b q)
       refine⟨p,hp,hpl,ev_k ?_⟩
       simp only[Qac.l3]
       rw[w64 (a:=w+1) (by omega) (by omega)]
       exact ev_neg (by omega) (ev_pos i0 (ev_pos (by omega) (ev_neg (by omega) (ev_pos (by omega) hE))))
      ·have hu0:rd up (rd (dist n l v) w)≥0:=by rw[e2];exact(cn_range _ _ _).1
       by_cases c1:rd up (rd (dist n l v) w)=upN n l v w
       ·by_cases c2:rd dn (rd (dist n l v) w)=dnN n l v w
        ·obtain⟨p,hp,hpl,hE⟩:=next fun a b q e=>by rw[(t a b q e).1,(t a b q e).2,c1,c2];exact⟨rfl,rfl⟩
         refine⟨p,hp,hpl,ev_k ?_⟩
         simp only[Qac.l3]
         rw[w64 (a:=w+1) (by omega) (by omega)]
         exact ev_neg (by omega) (ev_pos i0 (ev_pos (by omega) (ev_pos hu0 (ev_pos c1 (ev_pos (by omega) (ev_pos c2 hE))))))
        ·refine⟨([],[],false),.inr ⟨rfl,fun q=>c2 ?_⟩,by simp,ev_k ?_⟩
         ·rw[e3];exact(q a b v w x.1 hvw e1).2
         ·simp only[Qac.l3]
          exact ev_neg (by omega) (ev_pos i0 (ev_pos (by omega) (ev_pos hu0 (ev_pos c1 (ev_pos (by omega) (ev_neg c2 (Ev.now _)))))))
       ·refine⟨([],[],false),.inr ⟨rfl,fun q=>c1 ?_⟩,by simp,ev_k ?_⟩
        ·rw[e2];exact(q a b v w x.1 hvw e1).1
        ·simp only[Qac.l3]
         exact ev_neg (by omega) (ev_pos i0 (ev_pos (by omega) (ev_pos hu0 (ev_neg c1 (Ev.now _)))))
     have count:∀(c x:Nat),(x:Int)≤n→n-x=c→∃p,Found n l p∧(p.1.length≤62∧p.2.1.length≤62)∧Ev (fun k=>Qac.l3 k (dists n l n.toNat) (diam n l) up dn v w (rd (dist n l v) w) (cn (dist n l v) (onesFrom (rd l w).toNat x 0) (rd (dist n l v) w+1)) (cn (dist n l v) (onesFrom (rd l w).toNat x 0) (rd (dist n l v) w-1)) (x:Int) n l) p:=by
      intro c
      induction c with
      |zero=>
       intro x x1 hc
       rw[show(x:Int)=n by omega,show x=n.toNat by omega,← hto]
       exact fin
      |succ c ihc=>
       intro x x1 hc
       obtain⟨p,hp,hpl,hE⟩:=ihc (x+1) (by omega) (by omega)
       refine⟨p,hp,hpl,ev_k ?_⟩
       have htb:tb (rd l w) (x:Int)=(rd l w).toNat.testBit x:=by rw[tb_toNat hrow.1 (by omega),Int.toNat_natCast]
       have bq:bits .and .i64 (shr .i64 (rd l w) (x:Int)) 1=0↔¬tb (rd l w) (x:Int)=true:=by
        rw[bit_at (by omega) (by omega)]
        cases tb (rd l w) (x:Int)<;>simp
       have hol:=onesFrom_length (rd l w).toNat x 0
       have r1:=cn_range (dist n l v) (onesFrom (rd l w).toNat x 0) (rd (dist n l v) w+1)
       have r2:=cn_range (dist n l v) (onesFrom (rd l w).toNat x 0) (rd (dist n l v) w-1)
       rw[onesFrom_add,cn_app,cn_app]at hE
       simp only[onesFrom,Nat.zero_add]at hE
       generalize cn (dist n l v) (onesFrom (rd l w).toNat x 0) (rd (dist n l v) w+1)=A at *
       generalize cn (dist n l v) (onesFrom (rd l w).toNat x 0) (rd (dist n l v) w-1)=B at *
       simp only[Qac.l3]
       rw[wu64 (a:=(x:Int)) (by omega) (by omega),w64 (a:=(x:Int)+1) (by omega) (by omega),hv,w64 (a:=rd (dist n l v) w+1) (by omega) (by omega),w64 (a:=rd (dist n l v) w-1) (by omega) (by omega),w64 (a:=A+1) (by omega) (by omega),w64 (a:=B+1) (by omega) (by omega)]
       refine ev_pos (by omega) (ev_pos w0 (ev_pos (by omega) (ev_pos (by omega) ?_)))
       by_cases ht:tb (rd l w) (x:Int)=true
       ·rw[if_pos (by rw[← htb];exact ht),cn_one,cn_one]at hE
        refine ev_neg (fun z=>bq.1 z ht) (ev_pos v0 (ev_pos (by omega) (ev_pos (by omega) (ev_pos (by omega) ?_))))
        by_cases z1:rd (dist n l v) (x:Int)=rd (dist n l v) w+1
        ·rw[if_pos z1,if_neg (by omega),Int.add_zero]at hE
         exact ev_pos z1 (ev_neg (by omega) hE)
        ·by_cases z2:rd (dist n l v) (x:Int)=rd (dist n l v) w-1
         ·rw[if_neg z1,if_pos z2,Int.add_zero]at hE
          exact ev_neg z1 (ev_pos z2 hE)
         ·rw[if_neg z1,if_neg z2,Int.add_zero,Int.add_zero]at hE
          exact ev_neg z1 (ev_neg z2 hE)
       ·rw[if_neg (by rw[← htb];exact ht),cn_nil,cn_nil,Int.add_zero,Int.add_zero]at hE
        exact ev_pos (bq.2 ht) hE
     obtain⟨p,hp,hpl,hE⟩:=count n.toNat 0 (by omega) (by omega)
     refine⟨p,hp,hpl,ev_k ?_⟩
     simp only[Qac.l2]
     rw[hv]
     exact ev_pos (by omega) (ev_pos v0 (ev_pos (by omega) (ev_pos w0 (ev_pos (by omega) hE))))
   obtain⟨p,hp,hpl,hE⟩:=inner n.toNat 0 up dn (by omega) (by omega) (by omega) hI
   refine⟨p,hp,hpl,ev_k ?_⟩
   simp only[Qac.l1]
   exact ev_pos (by omega) hE
 have fill:∀(c i:Nat) (up dn:List Int),(i:Int)≤diam n l+1→diam n l+1-i=c→(up.length:Int)=diam n l+1→(dn.length:Int)=diam n l+1→(∀j,0≤j→j<(i:Int)→rd up j=-1)→∃p,Found n l p∧(p.1.length≤62∧p.2.1.length≤62)∧Ev (fun k=>Qac.l0 k (dists n l n.toNat) (diam n l) up dn (diam n l+1) i n l) p:=by
  intro c
  induction c with
  |zero=>
   intro i up dn i1 hc lu ld hu
   obtain⟨p,hp,hpl,hE⟩:=main n.toNat 0 up dn (by omega) (by omega) (by omega) ⟨⟨lu,ld⟩,fun j j0 j1=>.inl ⟨hu j j0 (by omega),fun a b q=>by unfold Pr at q;omega⟩⟩
   refine⟨p,hp,hpl,ev_k ?_⟩
   simp only[Qac.l0]
   exact ev_neg (by omega) hE
  |succ c ihc=>
   intro i up dn i1 hc lu ld hu
   obtain⟨p,hp,hpl,hE⟩:=ihc (i+1) (up.set i (-1)) (dn.set i (-1)) (by omega) (by omega) (by simpa using lu) (by simpa using ld) (fun j j0 j1=>by
    have:=rd_set (l:=up) (i:=(i:Int)) (j:=j) (-1) (by omega) (by omega) j0
    rw[Int.toNat_natCast]at this
    rw[this]
    by_cases z:j=i
    ·rw[if_pos z]
    ·rw[if_neg z]
     exact hu j j0 (by omega))
   refine⟨p,hp,hpl,ev_k ?_⟩
   simp only[Qac.l0]
   rw[w64 (a:=(i:Int)+1) (by omega) (by omega),Int.toNat_natCast]
   exact ev_pos (by omega) (ev_pos (by omega) (ev_pos (by omega) (ev_pos (by omega) hE)))
 obtain⟨p,hp,hpl,hE⟩:=fill (diam n l+1).toNat 0 (List.replicate (diam n l+1).toNat 0) (List.replicate (diam n l+1).toNat 0) (by omega) (by omega) (by simp;omega) (by simp;omega) (fun j j0 j1=>by omega)
 refine⟨p,hp,hpl,?_⟩
 unfold Qac.f
 refine Ev.bind (s_rows h.1) (Ev.bind hdm ?_)
 rw[w64 (a:=diam n l+1) (by omega) (by omega)]
 refine ev_pos (by omega) (ev_pos (by omega) ?_)
 simp only[Option.bind_some]
 rw[show((List.replicate (diam n l+1).toNat (0:Int)).length:Int)=diam n l+1 by simp;omega]
 exact hE
end
def InvI (n:Int) (l:List Int) (v w:Int) (b c:List Int):Prop:=((b.length:Int)=diam n l∧(c.length:Int)=diam n l)∧
 (∀i,0≤i→i<diam n l→(rd b i=0∧∀x y,Pr n v w x y→rd (dist n l x) y≠i)∨((∃x y,Pr n v w x y∧rd (dist n l x) y=i∧rd b i=upN n l x y∧rd b i≠0)∧∀x y,Pr n v w x y→rd (dist n l x) y=i→upN n l x y=rd b i))∧
 (∀i,0<i→i≤diam n l→(rd c (i-1)=0∧∀x y,Pr n v w x y→rd (dist n l x) y≠i)∨((∃x y,Pr n v w x y∧rd (dist n l x) y=i∧rd c (i-1)=dnN n l x y∧rd c (i-1)≠0)∧∀x y,Pr n v w x y→rd (dist n l x) y=i→dnN n l x y=rd c (i-1)))
section
variable {n:Int} {l:List Int} (h:isG n l) (hj:joinedG n l)
include h hj
theorem i_arrays:∃p,Found n l p∧Ev (fun k=>Qai.f k n l) p:=by
 have n1:=h.1.1
 have n2:=h.1.2.1
 have hl:=h.1.2.2.1
 have hel:=eccs_length n l n.toNat
 obtain⟨D,hD,hmax⟩:=r_max (eccs n l n.toNat) (by omega) (by omega)
 have eD:D=diam n l:=hmax.uniq (diam_max l n1 n2)
 rw[eD]at hD
 have hD0:0≤diam n l:=by
  obtain⟨v,u,⟨hv,hu⟩,e⟩:=diam_at l n1 n2
  have:=joined_all h hj hv.1 hv.2 hu.1 hu.2
  omega
 have hD1:diam n l<n:=by
  obtain⟨v,u,⟨hv,hu⟩,e⟩:=diam_at l n1 n2
  have:=(dist_of n l v (by omega)).small u hu.1 hu.2
  omega
 have main:∀(d:Nat) (v:Int) (b c:List Int),0≤v→v≤n→n-v=d→InvI n l v 0 b c→∃p,Found n l p∧Ev (fun k=>Qai.l0 k (diam n l) b c n v n l) p:=by
  intro d
  induction d with
  |zero=>
   intro v b c v0 v1 hd hI
   obtain⟨⟨lb,lc⟩,hB,hC⟩:=hI
   obtain rfl:v=n:=by omega
   have hallB:∀x y,((0≤x∧x<v)∧(0≤y∧y<v))→rd (dist v l x) y<diam v l→upN v l x y=rd b (rd (dist v l x) y):=fun x y hxy hlt=>by
    have x0:=joined_all h hj hxy.1.1 hxy.1.2 hxy.2.1 hxy.2.2
    rcases hB _ x0 hlt with⟨_,z⟩|⟨_,z⟩
    ·exact absurd rfl (z x y ⟨hxy,by omega⟩)
    ·exact z x y ⟨hxy,by omega⟩ rfl
   have hallC:∀x y,((0≤x∧x<v)∧(0≤y∧y<v))→0<rd (dist v l x) y→dnN v l x y=rd c (rd (dist v l x) y-1):=fun x y hxy hlt=>by
    have x1:=diam_le l n1 n2 hxy.1.1 hxy.1.2 hxy.2.1 hxy.2.2
    rcases hC _ hlt x1 with⟨_,z⟩|⟨_,z⟩
    ·exact absurd rfl (z x y ⟨hxy,by omega⟩)
    ·exact z x y ⟨hxy,by omega⟩ rfl
   refine⟨(b,c,true),.inl ⟨rfl,fun x y x' y' hxy hxy' e=>?_,⟨lb,fun x y hxy hlt=>(hallB x y hxy hlt).symm⟩,⟨lc,fun x y hxy hlt=>(hallC x y hxy hlt).symm⟩⟩,ev_k ?_⟩
   ·have x1:=diam_le l n1 n2 hxy.1.1 hxy.1.2 hxy.2.1 hxy.2.2
    have x0:=joined_all h hj hxy.1.1 hxy.1.2 hxy.2.1 hxy.2.2
    constructor
    ·by_cases z:rd (dist v l x) y<diam v l
     ·rw[hallB x y hxy z,hallB x' y' hxy' (by omega),e]
     ·rw[up_end h hxy.1 hxy.2 (by omega),up_end h hxy'.1 hxy'.2 (by omega)]
    ·by_cases z:0<rd (dist v l x) y
     ·rw[hallC x y hxy z,hallC x' y' hxy' (by omega),e]
     ·rw[dn_end h hj hxy.1 hxy.2 (by omega),dn_end h hj hxy'.1 hxy'.2 (by omega)]
   ·simp only[Qai.l0]
    exact ev_neg (by omega) (Ev.now _)
  |succ d ih=>
   intro v b c v0 v1 hd hI
   have hdist:=dist_of n l v (by omega)
   have hvl:=hdist.len
   have inner:∀(e:Nat) (w:Int) (b c:List Int),0≤w→w≤n→n-w=e→InvI n l v w b c→∃p,Found n l p∧Ev (fun k=>Qai.l1 k (diam n l) b c (dist n l v) n v (dist n l v) ((dist n l v).length:Int) w n l) p:=by
    intro e
    induction e with
    |zero=>
     intro w b c w0 w1 he hI
     obtain⟨p,hp,hE⟩:=ih (v+1) b c (by omega) (by omega) (by omega) (by
      have hP:∀x y,Pr n (v+1) 0 x y↔Pr n v w x y:=fun x y=>by unfold Pr;omega
      refine⟨hI.1,fun i i0 i1=>?_,fun i i0 i1=>?_⟩
      ·rcases hI.2.1 i i0 i1 with⟨s,t⟩|⟨⟨x,y,s,t⟩,z⟩
       ·exact .inl ⟨s,fun x y q=>t x y ((hP x y).1 q)⟩
       ·exact .inr ⟨⟨x,y,(hP x y).2 s,t⟩,fun x y q=>z x y ((hP x y).1 q)⟩
      ·rcases hI.2.2 i i0 i1 with⟨s,t⟩|⟨⟨x,y,s,t⟩,z⟩
       ·exact .inl ⟨s,fun x y q=>t x y ((hP x y).1 q)⟩
       ·exact .inr ⟨⟨x,y,(hP x y).2 s,t⟩,fun x y q=>z x y ((hP x y).1 q)⟩)
     refine⟨p,hp,ev_k ?_⟩
     simp only[Qai.l1]
     rw[w64 (a:=v+1) (by omega) (by omega)]
     exact ev_neg (by omega) hE
    |succ e ihe=>
     intro w b c w0 w1 he hI
     have hrow:=h.1.2.2.2 w w0 (by omega)
     have hpw:=two_pow_le (n:=n) (by omega) n2
     have hvw:(0≤v∧v<n)∧(0≤w∧w<n):=by omega
     have i0:=joined_all h hj v0 hvw.1.2 w0 hvw.2.2
     have i1:=diam_le l n1 n2 v0 hvw.1.2 w0 hvw.2.2
     have ol:=ones_length (rd l w)
     have om:=fun u=>ones_mem (n:=n) (by omega) n2 hrow.1 hrow.2 u
     have hUr:=cn_range (dist n l v) (ones (rd l w)) (rd (dist n l v) w+1)
     have hNr:=cn_range (dist n l v) (ones (rd l w)) (rd (dist n l v) w-1)
     have hdp:=fun z=>dn_pos h hvw.1 hvw.2 z
     obtain⟨⟨lb,lc⟩,hB,hC⟩:=hI
     have goB:∀b':List Int,(b'.length:Int)=diam n l→(∀i,0≤i→i<diam n l→i≠rd (dist n l v) w→rd b' i=rd b i)→(rd (dist n l v) w<diam n l→rd b' (rd (dist n l v) w)=upN n l v w∧upN n l v w≠0∧∀x y,Pr n v w x y→rd (dist n l x) y=rd (dist n l v) w→upN n l x y=upN n l v w)→∀i,0≤i→i<diam n l→(rd b' i=0∧∀x y,Pr n v (w+1) x y→rd (dist n l x) y≠i)∨((∃x y,Pr n v (w+1) x y∧rd (dist n l x) y=i∧rd b' i=upN n l x y∧rd b' i≠0)∧∀x y,Pr n v (w+1) x y→rd (dist n l x) y=i→upN n l x y=rd b' i):=by
      intro b' _ hold hnew i j0 j1
      by_cases z:i=rd (dist n l v) w
      ·obtain⟨e1,e2,e3⟩:=hnew (by omega)
       rw[z,e1]
       refine .inr ⟨⟨v,w,Pr_next.2 (.inr ⟨hvw,rfl,rfl⟩),rfl,rfl,e2⟩,fun x y q e=>?_⟩
       rcases Pr_next.1 q with q|⟨_,rfl,rfl⟩
       ·exact e3 x y q e
       ·rfl
      ·rw[hold i j0 j1 z]
       rcases hB i j0 j1 with⟨s,t⟩|⟨⟨x,y,s,t⟩,r⟩
       ·refine .inl ⟨s,fun x y q e=>?_⟩
        rcases Pr_next.1 q with q|⟨_,rfl,rfl⟩
        ·exact t x y q e
        ·exact z e.symm
       ·refine .inr ⟨⟨x,y,Pr_next.2 (.inl s),t⟩,fun x y q e=>?_⟩
        rcases Pr_next.1 q with q|⟨_,rfl,rfl⟩
        ·exact r x y q e
        ·exact absurd e.symm z
     have goC:∀c':List Int,(c'.length:Int)=diam n l→(∀i,0<i→i≤diam n l→i≠rd (dist n l v) w→rd c' (i-1)=rd c (i-1))→(0<rd (dist n l v) w→rd c' (rd (dist n l v) w-1)=dnN n l v w∧∀x y,Pr n v w x y→rd (dist n l x) y=rd (dist n l v) w→dnN n l x y=dnN n l v w)→∀i,0<i→i≤diam n l→(rd c' (i-1)=0∧∀x y,Pr n v (w+1) x y→rd (dist n l x) y≠i)∨((∃x y,Pr n v (w+1) x y∧rd (dist n l x) y=i∧rd c' (i-1)=dnN n l x y∧rd c' (i-1)≠0)∧∀x y,Pr n v (w+1) x y→rd (dist n l x) y=i→dnN n l x y=rd c' (i-1)):=by
      intro c' _ hold hnew i j0 j1
      by_cases z:i=rd (dist n l v) w
      ·obtain⟨e1,e3⟩:=hnew (by omega)
       have:=hdp (by omega)
       rw[z,e1]
       refine .inr ⟨⟨v,w,Pr_next.2 (.inr ⟨hvw,rfl,rfl⟩),rfl,rfl,by omega⟩,fun x y q e=>?_⟩
       rcases Pr_next.1 q with q|⟨_,rfl,rfl⟩
       ·exact e3 x y q e
       ·rfl
      ·rw[hold i j0 j1 z]
       rcases hC i j0 j1 with⟨s,t⟩|⟨⟨x,y,s,t⟩,r⟩
       ·refine .inl ⟨s,fun x y q e=>?_⟩
        rcases Pr_next.1 q with q|⟨_,rfl,rfl⟩
        ·exact t x y q e
        ·exact z e.symm
       ·refine .inr ⟨⟨x,y,Pr_next.2 (.inl s),t⟩,fun x y q e=>?_⟩
        rcases Pr_next.1 q with q|⟨_,rfl,rfl⟩
        ·exact r x y q e
        ·exact absurd e.symm z
     have j3:∀b':List Int,(b'.length:Int)=diam n l→(∀i,0≤i→i<diam n l→i≠rd (dist n l v) w→rd b' i=rd b i)→(rd (dist n l v) w<diam n l→rd b' (rd (dist n l v) w)=upN n l v w∧upN n l v w≠0∧∀x y,Pr n v w x y→rd (dist n l x) y=rd (dist n l v) w→upN n l x y=upN n l v w)→∃p,Found n l p∧Ev (fun k=>Qai.j3 k (diam n l) b' c (dist n l v) (rd (dist n l v) w) (dnN n l v w) n v (dist n l v) ((dist n l v).length:Int) w n l) p:=by
      intro b' lb' hb1 hb2
      have hB':=goB b' lb' hb1 hb2
      by_cases hpos:rd (dist n l v) w>0
      ·have hdn:=hdp hpos
       rcases hC _ hpos i1 with⟨s,t⟩|⟨⟨x,y,s,e1,e2,e3⟩,t⟩
       ·have hset:=fun j j0=>rd_set (l:=c) (i:=rd (dist n l v) w-1) (j:=j) (dnN n l v w) (by omega) (by omega) j0
        obtain⟨p,hp,hE⟩:=ihe (w+1) b' (c.set (rd (dist n l v) w-1).toNat (dnN n l v w)) (by omega) (by omega) (by omega) ⟨⟨lb',by simpa using lc⟩,hB',goC _ (by simpa using lc) (fun i j0 j1 z=>by rw[hset _ (by omega),if_neg (by omega)]) (fun _=>⟨by rw[hset _ (by omega),if_pos rfl],fun x y q e=>absurd e (t x y q)⟩)⟩
        refine⟨p,hp,ev_k ?_⟩
        simp only[Qai.j3]
        rw[w64 (a:=rd (dist n l v) w-1) (by omega) (by omega),w64 (a:=w+1) (by omega) (by omega)]
        refine ev_pos hpos (ev_pos (by omega) (ev_pos (by omega) (ev_pos s ?_)))
        simp only[Option.bind_some]
        exact ev_pos (by rw[hset _ (by omega),if_pos rfl]) hE
       ·by_cases z:dnN n l v w=rd c (rd (dist n l v) w-1)
        ·obtain⟨p,hp,hE⟩:=ihe (w+1) b' c (by omega) (by omega) (by omega) ⟨⟨lb',lc⟩,hB',goC c lc (fun _ _ _ _=>rfl) (fun _=>⟨z.symm,fun x y q e=>by rw[t x y q e,z]⟩)⟩
         refine⟨p,hp,ev_k ?_⟩
         simp only[Qai.j3]
         rw[w64 (a:=rd (dist n l v) w-1) (by omega) (by omega),w64 (a:=w+1) (by omega) (by omega)]
         exact ev_pos hpos (ev_pos (by omega) (ev_pos (by omega) (ev_neg e3 (ev_pos z hE))))
        ·refine⟨([],[],false),.inr ⟨rfl,fun q=>z ?_⟩,ev_k ?_⟩
         ·rw[e2]
          exact(q v w x y hvw s.1 e1.symm).2
         ·simp only[Qai.j3]
          rw[w64 (a:=rd (dist n l v) w-1) (by omega) (by omega)]
          exact ev_pos hpos (ev_pos (by omega) (ev_pos (by omega) (ev_neg e3 (ev_neg z (Ev.now _)))))
      ·obtain⟨p,hp,hE⟩:=ihe (w+1) b' c (by omega) (by omega) (by omega) ⟨⟨lb',lc⟩,hB',goC c lc (fun _ _ _ _=>rfl) (fun z=>absurd z hpos)⟩
       refine⟨p,hp,ev_k ?_⟩
       simp only[Qai.j3]
       rw[w64 (a:=w+1) (by omega) (by omega)]
       exact ev_neg hpos hE
     have fin:∃p,Found n l p∧Ev (fun k=>Qai.l2 k (diam n l) b c (dist n l v) (rd (dist n l v) w) (upN n l v w) (dnN n l v w) n v (dist n l v) ((dist n l v).length:Int) w (ones (rd l w)) ((ones (rd l w)).length:Int) ((ones (rd l w)).length:Int) n l) p:=by
      by_cases hlt:rd (dist n l v) w<diam n l
      ·have bad:upN n l v w=0→¬DR n l:=fun z q=>by
        obtain⟨x,y,hxy,e1,e2⟩:=up_some h i0 hlt
        have:=(q v w x y hvw hxy e1.symm).1
        omega
       rcases hB _ i0 hlt with⟨s,t⟩|⟨⟨x,y,s,e1,e2,e3⟩,t⟩
       ·have hset:=fun j j0=>rd_set (l:=b) (i:=rd (dist n l v) w) (j:=j) (upN n l v w) i0 (by omega) j0
        by_cases z:upN n l v w=0
        ·refine⟨([],[],false),.inr ⟨rfl,bad z⟩,ev_k ?_⟩
         simp only[Qai.l2]
         refine ev_neg (by omega) (ev_pos hlt (ev_pos i0 (ev_pos (by omega) (ev_pos s ?_))))
         simp only[Option.bind_some]
         exact ev_pos (by rw[hset _ i0,if_pos rfl]) (ev_pos z (Ev.now _))
        ·obtain⟨p,hp,hE⟩:=j3 (b.set (rd (dist n l v) w).toNat (upN n l v w)) (by simpa using lb) (fun i j0 j1 z=>by rw[hset _ j0,if_neg z]) (fun _=>⟨by rw[hset _ i0,if_pos rfl],z,fun x y q e=>absurd e (t x y q)⟩)
         refine⟨p,hp,ev_k ?_⟩
         simp only[Qai.l2]
         refine ev_neg (by omega) (ev_pos hlt (ev_pos i0 (ev_pos (by omega) (ev_pos s ?_))))
         simp only[Option.bind_some]
         exact ev_pos (by rw[hset _ i0,if_pos rfl]) (ev_neg z hE)
       ·by_cases z:upN n l v w=rd b (rd (dist n l v) w)
        ·obtain⟨p,hp,hE⟩:=j3 b lb (fun _ _ _ _=>rfl) (fun _=>⟨z.symm,by rw[z];exact e3,fun x y q e=>by rw[t x y q e,z]⟩)
         refine⟨p,hp,ev_k ?_⟩
         simp only[Qai.l2]
         exact ev_neg (by omega) (ev_pos hlt (ev_pos i0 (ev_pos (by omega) (ev_neg e3 (ev_pos z (ev_neg (by rw[z];exact e3) hE))))))
        ·refine⟨([],[],false),.inr ⟨rfl,fun q=>z ?_⟩,ev_k ?_⟩
         ·rw[e2]
          exact(q v w x y hvw s.1 e1.symm).1
         ·simp only[Qai.l2]
          exact ev_neg (by omega) (ev_pos hlt (ev_pos i0 (ev_pos (by omega) (ev_neg e3 (ev_neg z (Ev.now _))))))
      ·obtain⟨p,hp,hE⟩:=j3 b lb (fun _ _ _ _=>rfl) (fun z=>absurd z hlt)
       refine⟨p,hp,ev_k ?_⟩
       simp only[Qai.l2]
       exact ev_neg (by omega) (ev_neg hlt hE)
     have count:∀(ws pre:List Int),pre++ws=ones (rd l w)→∃p,Found n l p∧Ev (fun k=>Qai.l2 k (diam n l) b c (dist n l v) (rd (dist n l v) w) (cn (dist n l v) pre (rd (dist n l v) w+1)) (cn (dist n l v) pre (rd (dist n l v) w-1)) n v (dist n l v) ((dist n l v).length:Int) w (ones (rd l w)) ((ones (rd l w)).length:Int) (pre.length:Int) n l) p:=by
      intro ws
      induction ws with
      |nil=>
       intro pre hpre
       rw[List.append_nil]at hpre
       rw[hpre]
       exact fin
      |cons u ws ihw=>
       intro pre hpre
       have hlt:pre.length<(ones (rd l w)).length:=by rw[← hpre];simp
       have hu:rd (ones (rd l w)) (pre.length:Int)=u:=by
        rw[← hpre]
        simp[rd,List.getD_eq_getElem?_getD]
       obtain⟨u0,u1,_⟩:=(om u).1 (by rw[← hpre];simp)
       obtain⟨p,hp,hE⟩:=ihw (pre++[u]) (by rw[← hpre];simp)
       rw[cn_app,cn_app,cn_one,cn_one,List.length_append,List.length_singleton,Int.natCast_add]at hE
       have r1:=cn_range (dist n l v) pre (rd (dist n l v) w+1)
       have r2:=cn_range (dist n l v) pre (rd (dist n l v) w-1)
       generalize cn (dist n l v) pre (rd (dist n l v) w+1)=A at *
       generalize cn (dist n l v) pre (rd (dist n l v) w-1)=B at *
       refine⟨p,hp,ev_k ?_⟩
       simp only[Qai.l2,hu]
       rw[w64 (a:=(pre.length:Int)+1) (by omega) (by omega),w64 (a:=rd (dist n l v) w+1) (by omega) (by omega),w64 (a:=rd (dist n l v) w-1) (by omega) (by omega),w64 (a:=A+1) (by omega) (by omega),w64 (a:=B+1) (by omega) (by omega)]
       refine ev_pos (by omega) (ev_pos (by omega) (ev_pos (by omega) (ev_pos u0 (ev_pos (by omega) ?_))))
       by_cases z1:rd (dist n l v) u=rd (dist n l v) w+1
       ·rw[if_pos z1,if_neg (by omega),Int.add_zero]at hE
        exact ev_pos z1 hE
       ·by_cases z2:rd (dist n l v) u=rd (dist n l v) w-1
        ·rw[if_neg z1,if_pos z2,Int.add_zero]at hE
         exact ev_neg z1 (ev_pos z2 hE)
        ·rw[if_neg z1,if_neg z2,Int.add_zero,Int.add_zero]at hE
         exact ev_neg z1 (ev_neg z2 hE)
     obtain⟨p,hp,hE⟩:=count (ones (rd l w)) [] rfl
     refine⟨p,hp,ev_k ?_⟩
     simp only[Qai.l1]
     exact ev_pos (by omega) (ev_pos w0 (ev_pos (by omega) (ev_pos (by omega) (Ev.bind (i_list hrow.1 (by omega)) hE))))
   obtain⟨p,hp,hE⟩:=inner n.toNat 0 b c (by omega) (by omega) (by omega) hI
   refine⟨p,hp,ev_k ?_⟩
   simp only[Qai.l0]
   exact ev_pos (by omega) (Ev.bind (i_distances h.1 v0 (by omega) hdist) hE)
 have z0:∀(m:Nat) (i:Int),rd (List.replicate m (0:Int)) i=0:=fun m i=>by
  simp only[rd,List.getD_eq_getElem?_getD,List.getElem?_replicate]
  split<;>rfl
 obtain⟨p,hp,hE⟩:=main n.toNat 0 (List.replicate (diam n l).toNat 0) (List.replicate (diam n l).toNat 0) (by omega) (by omega) (by omega) ⟨⟨by simp;omega,by simp;omega⟩,fun i _ _=>.inl ⟨z0 _ i,fun a b q=>by unfold Pr at q;omega⟩,fun i _ _=>.inl ⟨z0 _ _,fun a b q=>by unfold Pr at q;omega⟩⟩
 refine⟨p,hp,?_⟩
 unfold Qai.f
 exact Ev.bind (i_reaches h.1) (Ev.bind hD (ev_pos hD0 (ev_pos (by omega) hE)))
theorem arrays_both:∃p:List Int × List Int × Bool,(p.1.length≤62∧p.2.1.length≤62)∧Ev (fun k=>Qac.f k n l) p∧Ev (fun k=>Qai.f k n l) p:=by
 obtain⟨p,hp,hpl,hs⟩:=s_arrays h hj
 obtain⟨q,hq,hi⟩:=i_arrays h hj
 obtain rfl:=Found.uniq h hp hq
 exact⟨p,hpl,hs,hi⟩
end
def sm (f:Int→Int):Nat→Int
 |0=>0
 |m+1=>sm f m+f m
theorem sm_congr {f g:Int→Int} (m:Nat) (h:∀i:Int,0≤i→i<m→f i=g i):sm f m=sm g m:=by
 induction m with
 |zero=>rfl
 |succ m ih=>
  simp only[sm]
  rw[ih fun i i0 i1=>h i i0 (by omega),h m (by omega) (by omega)]
theorem sm_zero (m:Nat):sm (fun _=>0) m=0:=by
 induction m with
 |zero=>rfl
 |succ m ih=>simp only[sm,ih];rfl
theorem sm_add (f g:Int→Int) (m:Nat):sm (fun i=>f i+g i) m=sm f m+sm g m:=by
 induction m with
 |zero=>rfl
 |succ m ih=>simp only[sm,ih];omega
theorem sm_swap (f:Int→Int→Int) (m k:Nat):sm (fun i=>sm (fun j=>f i j) k) m=sm (fun j=>sm (fun i=>f i j) m) k:=by
 induction m with
 |zero=>simp only[sm];exact(sm_zero k).symm
 |succ m ih=>simp only[sm];rw[ih,← sm_add]
theorem sm_ite (p:Prop) [Decidable p] (f:Int→Int) (m:Nat):(if p then sm f m else 0)=sm (fun i=>if p then f i else 0) m:=by
 by_cases h:p
 ·simp[h]
 ·simp[h,sm_zero]
theorem sm_one (v:Int) (c:Int→Int) (m:Nat) (v0:0≤v) (v1:v<m):sm (fun i=>if i=v then c i else 0) m=c v:=by
 induction m with
 |zero=>omega
 |succ m ih=>
  simp only[sm]
  by_cases z:v<m
  ·rw[ih z,if_neg (by omega)]
   omega
  ·have e:v=m:=by omega
   rw[if_pos e.symm,sm_congr m (g:=fun _=>0) fun i i0 i1=>if_neg (by omega),sm_zero,e]
   omega
theorem sm_mul (p:Int→Prop) [DecidablePred p] (K:Int) (m:Nat):sm (fun i=>if p i then K else 0) m=sm (fun i=>if p i then 1 else 0) m*K:=by
 induction m with
 |zero=>simp[sm]
 |succ m ih=>
  simp only[sm,ih]
  split
  ·rw[Int.add_mul,Int.one_mul]
  ·simp
theorem sm_const (m:Nat):sm (fun _=>1) m=m:=by
 induction m with
 |zero=>rfl
 |succ m ih=>simp only[sm,ih];omega
theorem sm_low (f:Int→Int) (h:∀i,0≤f i) (m:Nat):0≤sm f m:=by
 induction m with
 |zero=>exact Int.le_refl 0
 |succ m ih=>simp only[sm];have:=h m;omega
theorem sm_even (f:Int→Int→Int) (hs:∀i j,f i j=f j i) (hd:∀i,f i i=0) (m:Nat):sm (fun i=>sm (fun j=>f i j) m) m % 2=0:=by
 induction m with
 |zero=>rfl
 |succ m ih=>
  have e:sm (fun i=>sm (fun j=>f i j) (m+1)) m=sm (fun i=>sm (fun j=>f i j) m) m+sm (fun i=>f i m) m:=by
   rw[← sm_add]
   rfl
  have e2:sm (fun j=>f m j) m=sm (fun i=>f i m) m:=sm_congr m fun i _ _=>hs m i
  show(sm (fun i=>sm (fun j=>f i j) (m+1)) m+sm (fun j=>f m j) (m+1)) % 2=0
  rw[e]
  show(_+(sm (fun j=>f m j) m+f m m)) % 2=0
  rw[e2,hd]
  omega
def okL (b c:List Int):Prop:=(1≤b.length∧b.length≤10)∧c.length=b.length∧∀i:Int,0≤i→i<b.length→(1≤rd b i∧rd b i≤62)∧1≤rd c i∧rd c i≤62
theorem s_lists (b c:List Int):Says (fun k=>Qaw.f k b c) (okL b c):=by
 have bad:¬okL b c→Says (fun k=>Qaw.j0 k b c true) (okL b c):=fun h=>by
  refine says_k ?_
  simp only[Qaw.j0]
  exact says_pos trivial (says_false h)
 unfold Qaw.f
 by_cases e:(b.length:Int)=(c.length:Int)
 ·refine says_pos e ?_
  by_cases h1:(b.length:Int)<1
  ·exact says_pos h1 (bad fun h=>by have:=h.1;omega)
  refine says_neg h1 ?_
  by_cases h2:(b.length:Int)>10
  ·rw[decide_eq_true h2]
   exact bad fun h=>by have:=h.1;omega
  rw[decide_eq_false h2]
  refine says_k ?_
  simp only[Qaw.j0]
  refine says_neg (by simp) ?_
  have loop:∀(d:Nat) (i:Int),0≤i→b.length-i=d→Says (fun k=>Qaw.l0 k b c i) (∀j:Int,i≤j→j<b.length→(1≤rd b j∧rd b j≤62)∧1≤rd c j∧rd c j≤62):=by
   intro d
   induction d with
   |zero=>
    intro i i0 hd
    refine says_k ?_
    simp only[Qaw.l0]
    exact says_neg (by omega) (says_true fun j _ _=>by omega)
   |succ d ih=>
    intro i i0 hd
    refine says_k ?_
    simp only[Qaw.l0,s_in,Option.bind_some]
    rw[w64 (a:=i+1) (by omega) (by omega)]
    refine says_pos (by omega) (says_pos i0 ?_)
    by_cases z1:1≤rd b i∧rd b i≤62
    ·refine says_pos (decide_eq_true z1) (says_pos (by omega) ?_)
     by_cases z2:1≤rd c i∧rd c i≤62
     ·exact says_pos (decide_eq_true z2) (says_iff ⟨fun h j j0 j1=>h j (by omega) j1,fun h j j0 j1=>if q:j=i then by rw[q];exact⟨z1,z2⟩else h j (by omega) j1⟩ (ih (i+1) (by omega) (by omega)))
     ·exact says_neg (by simpa using z2) (says_false fun h=>z2 (h i (by omega) (by omega)).2)
    ·exact says_neg (by simpa using z1) (says_false fun h=>z1 (h i (by omega) (by omega)).1)
  exact says_iff ⟨fun h=>h.2.2,fun h=>⟨by omega,by omega,h⟩⟩ (loop b.length 0 (by omega) (by omega))
 ·exact says_neg e (bad fun h=>by have:=h.2.1;omega)
theorem i_lists (b c:List Int):∃e,Ev (fun k=>Qau.f k b c) e∧((okL b c∧e=0)∨(¬okL b c∧e=2)):=by
 have bad:Ev (fun k=>Qau.j0 k b c true) 2:=by
  refine ev_k ?_
  simp only[Qau.j0]
  exact ev_pos trivial (Ev.now _)
 unfold Qau.f
 by_cases h1:(b.length:Int)<1
 ·exact⟨2,ev_pos h1 bad,.inr ⟨fun h=>by have:=h.1;omega,rfl⟩⟩
 by_cases h2:(b.length:Int)>10
 ·exact⟨2,ev_neg h1 (ev_pos h2 bad),.inr ⟨fun h=>by have:=h.1;omega,rfl⟩⟩
 by_cases e:(c.length:Int)=(b.length:Int)
 ·have loop:∀(d:Nat) (i:Int),0≤i→b.length-i=d→∃e,Ev (fun k=>Qau.l0 k b c (b.length:Int) i) e∧(((∀j:Int,i≤j→j<b.length→(1≤rd b j∧rd b j≤62)∧1≤rd c j∧rd c j≤62)∧e=0)∨((¬∀j:Int,i≤j→j<b.length→(1≤rd b j∧rd b j≤62)∧1≤rd c j∧rd c j≤62)∧e=2)):=by
   intro d
   induction d with
   |zero=>
    intro i i0 hd
    refine⟨0,ev_k ?_,.inl ⟨fun j _ _=>by omega,rfl⟩⟩
    simp only[Qau.l0]
    exact ev_neg (by omega) (Ev.now _)
   |succ d ih=>
    intro i i0 hd
    have w:wrap64 (i+1)=i+1:=w64 (by omega) (by omega)
    have no:¬((1≤rd b i∧rd b i≤62)∧1≤rd c i∧rd c i≤62)→¬∀j:Int,i≤j→j<b.length→(1≤rd b j∧rd b j≤62)∧1≤rd c j∧rd c j≤62:=fun h q=>h (q i (by omega) (by omega))
    by_cases z1:rd b i<1
    ·refine⟨2,ev_k ?_,.inr ⟨no (by omega),rfl⟩⟩
     simp only[Qau.l0]
     exact ev_pos (by omega) (ev_pos i0 (ev_pos (by omega) (ev_pos z1 (Ev.now _))))
    by_cases z2:rd b i>62
    ·refine⟨2,ev_k ?_,.inr ⟨no (by omega),rfl⟩⟩
     simp only[Qau.l0]
     exact ev_pos (by omega) (ev_pos i0 (ev_pos (by omega) (ev_neg z1 (ev_pos z2 (Ev.now _)))))
    by_cases z3:rd c i<1
    ·refine⟨2,ev_k ?_,.inr ⟨no (by omega),rfl⟩⟩
     simp only[Qau.l0]
     exact ev_pos (by omega) (ev_pos i0 (ev_pos (by omega) (ev_neg z1 (ev_neg z2 (ev_pos (by omega) (ev_pos z3 (Ev.now _)))))))
    by_cases z4:rd c i>62
    ·refine⟨2,ev_k ?_,.inr ⟨no (by omega),rfl⟩⟩
     simp only[Qau.l0]
     exact ev_pos (by omega) (ev_pos i0 (ev_pos (by omega) (ev_neg z1 (ev_neg z2 (ev_pos (by omega) (ev_neg z3 (ev_pos z4 (Ev.now _))))))))
    obtain⟨q,hq,hc⟩:=ih (i+1) (by omega) (by omega)
    refine⟨q,ev_k ?_,?_⟩
    ·simp only[Qau.l0]
     rw[w]
     exact ev_pos (by omega) (ev_pos i0 (ev_pos (by omega) (ev_neg z1 (ev_neg z2 (ev_pos (by omega) (ev_neg z3 (ev_neg z4 hq)))))))
    ·refine hc.imp (fun h=>⟨fun j j0 j1=>if q:j=i then by rw[q];omega else h.1 j (by omega) j1,h.2⟩) fun h=>⟨fun q=>h.1 fun j j0 j1=>q j (by omega) j1,h.2⟩
  obtain⟨q,hq,hc⟩:=loop b.length 0 (by omega) (by omega)
  refine⟨q,ev_neg h1 (ev_neg h2 (ev_k ?_)),hc.imp (fun h=>⟨⟨by omega,by omega,h.1⟩,h.2⟩) fun h=>⟨fun q=>h.1 q.2.2,h.2⟩⟩
  simp only[Qau.j0]
  exact ev_neg (by simp[e]) hq
 ·refine⟨2,ev_neg h1 (ev_neg h2 ?_),.inr ⟨fun h=>by have:=h.2.1;omega,rfl⟩⟩
  rw[show((c.length:Int)!=(b.length:Int))=true by simpa using e]
  exact bad
def NumOK (b c xs:List Int):Prop:=xs.length=b.length+1∧rd xs 0=1∧∀i:Int,0≤i→i<b.length→rd xs (i+1)*rd c i=rd xs i*rd b i
theorem rd_snoc {xs:List Int} {x j:Int} (j0:0≤j) (j1:j≤xs.length):rd (xs++[x]) j=if j=xs.length then x else rd xs j:=by
 by_cases h:j=xs.length
 ·rw[if_pos h]
  subst h
  simp[rd,List.getD_eq_getElem?_getD]
 ·rw[if_neg h]
  have:j.toNat<xs.length:=by omega
  simp only[rd,List.getD_eq_getElem?_getD,List.getElem?_append_left this]
theorem mul_cancel {x y c:Int} (hc:1≤c) (h:x*c=y*c):x=y:=Int.eq_of_mul_eq_mul_right (by omega) h
theorem NumOK.uniq {b c xs ys:List Int} (hb:okL b c) (hx:NumOK b c xs) (hy:NumOK b c ys):xs=ys:=by
 have key:∀j:Nat,(j:Int)≤b.length→rd xs j=rd ys j:=by
  intro j
  induction j with
  |zero=>intro _;exact hx.2.1.trans hy.2.1.symm
  |succ j ih=>
   intro hj
   have a:=hx.2.2 j (by omega) (by omega)
   have e:=hy.2.2 j (by omega) (by omega)
   rw[← ih (by omega),← a]at e
   exact(mul_cancel (hb.2.2 j (by omega) (by omega)).2.1 e).symm
 refine rd_ext (by have:=hx.1;have:=hy.1;omega) fun v v0 v1=>?_
 have:=key v.toNat (by have:=hx.1;omega)
 rwa [Int.toNat_of_nonneg v0]at this
def p62 (j:Nat):Int:=62 ^ j
theorem pow62 {j:Nat} (h:j≤10):p62 j≤839299365868340224:=by
 have a:62 ^ j≤62 ^ 10:=Nat.pow_le_pow_right (by decide) h
 have e:p62 j=((62 ^ j:Nat):Int):=by simp[p62]
 have b:(62:Nat) ^ 10=839299365868340224:=by decide
 rw[e]
 rw[b]at a
 exact Int.ofNat_le.2 a
theorem p62_pos (j:Nat):0<p62 j:=Int.pow_pos (by decide)
theorem p62_succ (j:Nat):p62 (j+1)=p62 j*62:=Int.pow_succ _ _
theorem num_arith {x b c:Int} {i:Nat} (hi:i≤9) (x0:0≤x) (x1:x≤p62 i) (b1:1≤b) (b2:b≤62) (c1:1≤c):wrap64 (x*b)=x*b∧Int.tmod (x*b) c=x*b % c∧Int.tdiv (x*b) c=x*b/c∧wrap64 (x*b/c)=x*b/c∧0≤x*b/c∧x*b/c≤p62 (i+1):=by
 have p0:0≤x*b:=Int.mul_nonneg x0 (by omega)
 have p1:x*b≤p62 (i+1):=by
  rw[p62_succ]
  exact Int.mul_le_mul x1 b2 (by omega) (Int.le_of_lt (p62_pos i))
 have p2:=Int.le_trans p1 (pow62 (j:=i+1) (by omega))
 have q0:0≤x*b/c:=Int.ediv_nonneg p0 (by omega)
 have q1:x*b/c≤x*b:=Int.ediv_le_self _ p0
 have q2:=Int.le_trans q1 p1
 have q3:=Int.le_trans q1 p2
 clear p1 q1 x1
 refine⟨w64 (Int.le_trans (by decide) p0) (Int.lt_of_le_of_lt p2 (by decide)),Int.tmod_eq_emod_of_nonneg p0,Int.tdiv_eq_ediv_of_nonneg p0,w64 (Int.le_trans (by decide) q0) (Int.lt_of_le_of_lt q3 (by decide)),q0,q2⟩
theorem pre_uniq {b c xs ys:List Int} {i:Nat} (hc:∀j:Int,0≤j→j<i→1≤rd c j) (h0:rd ys 0=rd xs 0) (hx:∀j:Int,0≤j→j<i→rd xs (j+1)*rd c j=rd xs j*rd b j) (hy:∀j:Int,0≤j→j<i→rd ys (j+1)*rd c j=rd ys j*rd b j):∀j:Nat,j≤i→rd ys (j:Int)=rd xs (j:Int):=by
 intro j
 induction j with
 |zero=>intro _;exact h0
 |succ j ih=>
  intro hj
  have j1:(j:Int)<i:=by omega
  have a:=hy (j:Int) (by omega) j1
  have e:=hx (j:Int) (by omega) j1
  rw[ih (Nat.le_of_succ_le hj),← e]at a
  rw[show((j+1:Nat):Int)=(j:Int)+1 from rfl]
  exact mul_cancel (hc (j:Int) (by omega) j1) a
theorem snoc_rec {b c xs:List Int} {y:Int} {i:Nat} (hl:xs.length=i+1) (hr:∀j:Int,0≤j→j<i→rd xs (j+1)*rd c j=rd xs j*rd b j) (hq:y*rd c (i:Int)=rd xs (i:Int)*rd b (i:Int)):∀j:Int,0≤j→j<((i+1:Nat):Int)→rd (xs++[y]) (j+1)*rd c j=rd (xs++[y]) j*rd b j:=by
 intro j j0 j1
 have e1:rd (xs++[y]) j=rd xs j:=by rw[rd_snoc j0 (by omega),if_neg (by omega)]
 rw[e1]
 by_cases w:j=i
 ·subst w
  rw[rd_snoc (by omega) (by omega),if_pos (by omega)]
  exact hq
 ·rw[rd_snoc (by omega) (by omega),if_neg (by omega)]
  exact hr j j0 (by omega)
theorem snoc_zero {xs:List Int} {y:Int} {i:Nat} (hl:xs.length=i+1) (h0:rd xs 0=1):rd (xs++[y]) 0=1:=by
 have e:=rd_snoc (xs:=xs) (x:=y) (j:=0) (Int.le_refl 0) (by omega)
 have ne:¬(0:Int)=xs.length:=by omega
 exact(e.trans (if_neg ne)).trans h0
theorem snoc_bd {xs:List Int} {y:Int} {i:Nat} (hl:xs.length=i+1) (hb:∀j:Nat,j≤i→0≤rd xs j∧rd xs j≤p62 j) (hy:0≤y∧y≤p62 (i+1)):∀j:Nat,j≤i+1→0≤rd (xs++[y]) j∧rd (xs++[y]) j≤p62 j:=by
 intro j hj
 rw[rd_snoc (by omega) (by omega)]
 by_cases w:j=i+1
 ·subst w
  rw[if_pos (by omega)]
  exact hy
 ·rw[if_neg (by omega)]
  exact hb j (by omega)
theorem numbers_both {b c:List Int} (h:okL b c):∃p:List Int × Bool,Ev (fun k=>Qbk.f k b c) p∧Ev (fun k=>Qbh.f k b c) p∧p.1.length≤11∧((p.2=true∧NumOK b c p.1∧∀j:Int,0≤j→j≤b.length→0≤rd p.1 j)∨(p=([],false)∧∀xs,¬NumOK b c xs)):=by
 have hl:=h.1
 have hc:=h.2.1
 have loop:∀(d i:Nat) (xs:List Int),(b.length:Int)-i=d→xs.length=i+1→rd xs 0=1→(∀j:Int,0≤j→j<i→rd xs (j+1)*rd c j=rd xs j*rd b j)→(∀j:Nat,j≤i→0≤rd xs j∧rd xs j≤p62 j)→∃p:List Int × Bool,Ev (fun k=>Qbk.l0 k b c xs i) p∧Ev (fun k=>Qbh.l0 k b c xs (b.length:Int) i) p∧p.1.length≤11∧((p.2=true∧NumOK b c p.1∧∀j:Int,0≤j→j≤b.length→0≤rd p.1 j)∨(p=([],false)∧∀xs,¬NumOK b c xs)):=by
  intro d
  induction d with
  |zero=>
   intro i xs hd hx h0 hr hb
   refine⟨(xs,true),ev_k ?_,ev_k ?_,by show xs.length≤11;omega,.inl ⟨rfl,⟨by show xs.length=_;omega,h0,fun j j0 j1=>hr j j0 (by omega)⟩,fun j j0 j1=>?_⟩⟩
   ·simp only[Qbk.l0]
    exact ev_neg (by omega) (Ev.now _)
   ·simp only[Qbh.l0]
    exact ev_neg (by omega) (Ev.now _)
   ·have:=(hb j.toNat (by omega)).1
    rwa [Int.toNat_of_nonneg j0]at this
  |succ d ih=>
   intro i xs hd hx h0 hr hb
   obtain⟨⟨b1,b2⟩,c1,c2⟩:=h.2.2 i (by omega) (by omega)
   obtain⟨x0,x1⟩:=hb i (Nat.le_refl _)
   have f1:(i:Int)<b.length:=by omega
   have f2:(0:Int)≤i:=by omega
   have f3:(i:Int)<xs.length:=by omega
   have f4:(i:Int)<c.length:=by omega
   have f5:¬rd c i=0:=by omega
   have f6:xs.length<17592186044416:=by omega
   have f7:i≤9:=by omega
   have ei:wrap64 ((i:Int)+1)=((i+1:Nat):Int):=by rw[w64 (by omega) (by omega)];omega
   by_cases z:rd xs i*rd b i % rd c i=0
   ·have hq:rd xs i*rd b i/rd c i*rd c i=rd xs i*rd b i:=Int.ediv_mul_cancel (Int.dvd_of_emod_eq_zero z)
    have hB:0≤rd xs i*rd b i/rd c i∧rd xs i*rd b i/rd c i≤p62 (i+1):=(num_arith f7 x0 x1 b1 b2 c1).2.2.2.2
    have nxt:∃y,y=rd xs i*rd b i/rd c i:=⟨_,rfl⟩
    obtain⟨y,hy⟩:=nxt
    rw[← hy]at hq hB
    have fin:∀p:List Int × Bool,Ev (fun k=>Qbk.l0 k b c (xs++[y]) ((i+1:Nat):Int)) p→Ev (fun k=>Qbh.l0 k b c (xs++[y]) (b.length:Int) ((i+1:Nat):Int)) p→Ev (fun k=>Qbk.l0 k b c xs i) p∧Ev (fun k=>Qbh.l0 k b c xs (b.length:Int) i) p:=by
     intro p hs hi
     obtain⟨ew,et,ed,eq,_⟩:=num_arith f7 x0 x1 b1 b2 c1
     constructor
     ·refine ev_k ?_
      simp only[Qbk.l0]
      rw[ew,et,ed,eq,ei,← hy]
      exact ev_pos f1 (ev_pos f2 (ev_pos f3 (ev_pos f4 (ev_neg f5 (ev_pos z (ev_pos f6 hs))))))
     ·refine ev_k ?_
      simp only[Qbh.l0]
      rw[ew,et,ed,eq,ei,← hy]
      exact ev_pos f1 (ev_pos f2 (ev_pos f3 (ev_pos f1 (ev_pos f4 (ev_neg f5 (ev_pos z (ev_pos f6 hi)))))))
    clear hy z
    obtain⟨p,hs,hi,hp⟩:=ih (i+1) (xs++[y]) (by clear hq hB;omega) (by rw[List.length_append,hx];rfl) (snoc_zero hx h0) (snoc_rec hx hr hq) (snoc_bd hx hb hB)
    obtain⟨g1,g2⟩:=fin p hs hi
    exact⟨p,g1,g2,hp⟩
   ·have no:∀ys,¬NumOK b c ys:=fun ys hy=>z (by
     have key:=pre_uniq (fun j j0 j1=>(h.2.2 j j0 (Int.lt_trans j1 f1)).2.1) (hy.2.1.trans h0.symm) hr (fun j j0 j1=>hy.2.2 j j0 (Int.lt_trans j1 f1))
     have a:=hy.2.2 i f2 f1
     rw[key i (Nat.le_refl _)]at a
     rw[← a]
     exact Int.mul_emod_left _ _)
    obtain⟨ew,et,ed,eq,_⟩:=num_arith f7 x0 x1 b1 b2 c1
    refine⟨([],false),ev_k ?_,ev_k ?_,by simp,.inr ⟨rfl,no⟩⟩
    ·simp only[Qbk.l0]
     rw[ew,et]
     exact ev_pos f1 (ev_pos f2 (ev_pos f3 (ev_pos f4 (ev_neg f5 (ev_neg z (Ev.now _))))))
    ·simp only[Qbh.l0]
     rw[ew,et]
     exact ev_pos f1 (ev_pos f2 (ev_pos f3 (ev_pos f1 (ev_pos f4 (ev_neg f5 (ev_neg z (Ev.now _)))))))
 obtain⟨p,hs,hi,hp⟩:=loop b.length 0 [1] (by omega) rfl rfl (fun j _ _=>by omega) (fun j hj=>by
  obtain rfl:j=0:=by omega
  exact⟨by decide,by decide⟩)
 refine⟨p,?_,?_,hp⟩
 ·unfold Qbk.f
  exact hs
 ·unfold Qbh.f
  exact hi
theorem numbersAt_both (b c:List Int):∃xs q,xs.length≤11∧Ev (fun k=>Qcx.f k b c) (xs,q)∧Ev (fun k=>Qch.f k b c) (xs,q)∧(okL b c→∀ys,NumOK b c ys→xs=ys∧q=0):=by
 unfold Qcx.f Qch.f
 obtain⟨e,he,hc⟩:=i_lists b c
 rcases hc with⟨hk,rfl⟩|⟨hk,rfl⟩
 ·obtain⟨p,hs,hi,hp,hcase⟩:=numbers_both hk
  rcases hcase with⟨h1,h2,_⟩|⟨rfl,h2⟩
  ·exact⟨p.1,0,hp,Ev.bind ((s_lists b c).yes hk) (ev_pos rfl (Ev.bind hs (ev_pos h1 (Ev.now _)))),Ev.bind he (ev_pos rfl (Ev.bind hi (ev_pos h1 (Ev.now _)))),fun _ ys hy=>⟨h2.uniq hk hy,rfl⟩⟩
  ·exact⟨[],5,by simp,Ev.bind ((s_lists b c).yes hk) (ev_pos rfl (Ev.bind hs (ev_neg (by simp) (Ev.now _)))),Ev.bind he (ev_pos rfl (Ev.bind hi (ev_neg (by simp) (Ev.now _)))),fun _ ys hy=>absurd hy (h2 ys)⟩
 ·exact⟨[],2,by simp,Ev.bind ((s_lists b c).no hk) (ev_neg (by decide) (Ev.now _)),Ev.bind he (ev_neg (by decide) (Ev.now _)),fun h=>absurd h hk⟩
def SaysP (g:Nat→Option (Bool × Int)) (P:Prop):Prop:=∃q,Ev g (q,0)∧(q=true↔P)
theorem sp_iff {g:Nat→Option (Bool × Int)} {P R:Prop} (h:P↔R) (H:SaysP g R):SaysP g P:=by
 obtain⟨q,a,b⟩:=H
 exact⟨q,a,b.trans h.symm⟩
theorem sp_k {g:Nat→Option (Bool × Int)} {P:Prop} (H:SaysP (fun k=>g (k+1)) P):SaysP g P:=by
 obtain⟨q,a,b⟩:=H
 exact⟨q,ev_k a,b⟩
theorem sp_pos {c:Prop} [Decidable c] {f g:Nat→Option (Bool × Int)} {P:Prop} (h:c) (H:SaysP f P):SaysP (fun k=>if c then f k else g k) P:=by
 obtain⟨q,a,b⟩:=H
 exact⟨q,ev_pos h a,b⟩
theorem sp_neg {c:Prop} [Decidable c] {f g:Nat→Option (Bool × Int)} {P:Prop} (h:¬c) (H:SaysP g P):SaysP (fun k=>if c then f k else g k) P:=by
 obtain⟨q,a,b⟩:=H
 exact⟨q,ev_neg h a,b⟩
theorem sp_no {P:Prop} (h:¬P):SaysP (fun _=>some (false,0)) P:=⟨false,Ev.now _,by simp[h]⟩
theorem sp_now (q:Bool) {P:Prop} (h:q=true↔P):SaysP (fun _=>some (q,0)) P:=⟨q,Ev.now _,h⟩
theorem sp_bind {α:Type} {g:Nat→Option α} {f:Nat→α→Option (Bool × Int)} {a:α} {P:Prop} (h:Ev g a) (H:SaysP (fun n=>f n a) P):SaysP (fun n=>(g n).bind (f n)) P:=by
 obtain⟨q,x,b⟩:=H
 exact⟨q,Ev.bind h x,b⟩
def parN (xs:List Int):Nat→Int→Int
 |0,_=>0
 |d+1,i=>rd xs i % 2+parN xs d (i+1)
def F3 (b c:List Int) (i:Int):Prop:=(rd b i≤rd b (i-1)∧rd c (i-1)≤rd c i)∧rd b i+rd c (i-1)≤rd b 0
def NP (b c:List Int):Prop:=∃xs,NumOK b c xs∧parN xs xs.length 0*rd b 0 % 2=0
def Feas (b c:List Int):Prop:=(rd c 0=1∧rd c ((b.length:Int)-1)≤rd b 0)∧(∀i:Int,0≤i→i<b.length→(1≤i→F3 b c i)∧∀j:Int,0≤j→j<b.length→i+1+j≤b.length→rd c i≤rd b j)∧NP b c
theorem tmod2 {x:Int} (h:0≤x):Int.tmod x 2=x % 2:=Int.tmod_eq_emod_of_nonneg h
section
variable {b c:List Int} (h:okL b c)
include h
theorem i_feas_l2 {xs:List Int} (hx:xs.length≤11) (h0:∀j:Int,0≤j→j<xs.length→0≤rd xs j) (d:Nat):∀(i acc:Int),0≤i→xs.length-i=d→0≤acc→acc≤62*i→SaysP (fun k=>Qag.l2 k b acc xs (xs.length:Int) i) ((acc+parN xs d i*rd b 0) % 2=0):=by
 have hl:=h.1
 obtain⟨⟨b1,b2⟩,_⟩:=h.2.2 0 (Int.le_refl 0) (by omega)
 induction d with
 |zero=>
  intro i acc i0 hd a0 a1
  refine sp_k ?_
  simp only[Qag.l2]
  refine sp_neg (by omega) (sp_now _ ?_)
  rw[tmod2 a0,beq_iff_eq]
  simp[parN]
 |succ d ih=>
  intro i acc i0 hd a0 a1
  have hp:=h0 i i0 (by omega)
  have e1:=tmod2 hp
  have m0:0≤rd xs i % 2*rd b 0:=Int.mul_nonneg (by omega) (by omega)
  have m1:rd xs i % 2*rd b 0≤62:=by
   rcases(by omega:rd xs i % 2=0∨rd xs i % 2=1) with z|z<;>rw[z]<;>omega
  have e2:wrap64 (rd xs i % 2*rd b 0)=rd xs i % 2*rd b 0:=w64 (by omega) (by omega)
  have e3:wrap64 (acc+rd xs i % 2*rd b 0)=acc+rd xs i % 2*rd b 0:=w64 (by omega) (by omega)
  have e4:wrap64 (i+1)=i+1:=w64 (by omega) (by omega)
  refine sp_k ?_
  simp only[Qag.l2]
  rw[e1,e2,e3,e4]
  refine sp_pos (by omega) (sp_pos i0 (sp_pos (by omega) (sp_pos (by omega) ?_)))
  refine sp_iff ?_ (ih (i+1) (acc+rd xs i % 2*rd b 0) (by omega) (by omega) (by omega) (by omega))
  simp only[parN]
  rw[Int.add_mul,Int.add_assoc]
theorem i_feas_l0 (d:Nat):∀(i:Int),0≤i→b.length-i=d→SaysP (fun k=>Qag.l0 k b c (b.length:Int) (b.length:Int) i) ((∀i':Int,i≤i'→i'<b.length→(1≤i'→F3 b c i')∧∀j:Int,0≤j→j<b.length→i'+1+j≤b.length→rd c i'≤rd b j)∧NP b c):=by
 have hl:=h.1
 have hc:=h.2.1
 induction d with
 |zero=>
  intro i i0 hd
  obtain⟨p,_,hi,hp,hcase⟩:=numbers_both h
  refine sp_k ?_
  simp only[Qag.l0]
  refine sp_neg (by omega) (sp_bind hi ?_)
  rcases hcase with⟨h1,h2,h3⟩|⟨rfl,h2⟩
  ·refine sp_pos h1 (sp_iff ?_ (i_feas_l2 h hp (fun j j0 j1=>h3 j j0 (by have:=h2.1;omega)) p.1.length 0 0 (Int.le_refl 0) (by omega) (Int.le_refl 0) (by omega)))
   rw[Int.zero_add]
   constructor
   ·rintro⟨_,xs,hx,hy⟩
    obtain rfl:=hx.uniq h h2
    exact hy
   ·intro hy
    exact⟨fun i' _ _=>by omega,p.1,h2,hy⟩
  ·exact sp_neg (by simp) (sp_no fun q=>by obtain⟨_,xs,hx,_⟩:=q;exact h2 xs hx)
 |succ d ih=>
  intro i i0 hd
  have e1:wrap64 (i-1)=i-1:=w64 (by omega) (by omega)
  have e2:wrap64 (i+1)=i+1:=w64 (by omega) (by omega)
  obtain⟨⟨bi1,bi2⟩,ci1,ci2⟩:=h.2.2 i i0 (by omega)
  have rest:=ih (i+1) (by omega) (by omega)
  have inner:∀(e:Nat) (j:Int),0≤j→b.length-j=e→SaysP (fun k=>Qag.l1 k b c (b.length:Int) i j (b.length:Int) i) ((∀j':Int,j≤j'→j'<b.length→i+1+j'≤b.length→rd c i≤rd b j')∧(∀i':Int,i+1≤i'→i'<b.length→(1≤i'→F3 b c i')∧∀j:Int,0≤j→j<b.length→i'+1+j≤b.length→rd c i'≤rd b j)∧NP b c):=by
   intro e
   induction e with
   |zero=>
    intro j j0 hj
    have e3:wrap64 (i+1+j)=i+1+j:=w64 (by omega) (by omega)
    refine sp_k ?_
    simp only[Qag.l1]
    rw[e2,e3]
    refine sp_neg (by omega) (sp_k ?_)
    simp only[Qag.j4]
    rw[e2]
    exact sp_neg (by simp) (sp_iff ⟨fun q=>q.2,fun q=>⟨fun j' _ _=>by omega,q⟩⟩ rest)
   |succ e ihe=>
    intro j j0 hj
    have e3:wrap64 (i+1+j)=i+1+j:=w64 (by omega) (by omega)
    have e4:wrap64 (j+1)=j+1:=w64 (by omega) (by omega)
    refine sp_k ?_
    simp only[Qag.l1]
    rw[e2,e3]
    by_cases z:i+1+j≤b.length
    ·refine sp_pos z (sp_k ?_)
     simp only[Qag.j4]
     rw[e4]
     refine sp_pos (decide_eq_true (by omega)) (sp_pos i0 (sp_pos (by omega) (sp_pos j0 (sp_pos (by omega) ?_))))
     by_cases y:rd c i>rd b j
     ·exact sp_pos y (sp_no fun q=>by have:=q.1 j (Int.le_refl _) (by omega) z;omega)
     ·refine sp_neg y (sp_iff ⟨fun q=>⟨fun j' g0 g1 g2=>q.1 j' (by omega) g1 g2,q.2⟩,fun q=>⟨fun j' g0 g1 g2=>?_,q.2⟩⟩ (ihe (j+1) (by omega) (by omega)))
      by_cases w:j'=j
      ·rw[w];omega
      ·exact q.1 j' (by omega) g1 g2
    ·refine sp_neg z (sp_k ?_)
     simp only[Qag.j4]
     rw[e2]
     exact sp_neg (by simp) (sp_iff ⟨fun q=>q.2,fun q=>⟨fun j' g0 g1 g2=>by omega,q⟩⟩ rest)
  have all:=inner b.length 0 (Int.le_refl 0) (by omega)
  have j2:∀bad:Bool,(bad=true↔¬(1≤i→F3 b c i))→SaysP (fun k=>Qag.j2 k b c (b.length:Int) i (b.length:Int) i bad) ((∀i':Int,i≤i'→i'<b.length→(1≤i'→F3 b c i')∧∀j:Int,0≤j→j<b.length→i'+1+j≤b.length→rd c i'≤rd b j)∧NP b c):=by
   intro bad hbad
   refine sp_k ?_
   simp only[Qag.j2]
   by_cases z:bad=true
   ·exact sp_pos z (sp_no fun q=>(hbad.1 z) (q.1 i (Int.le_refl _) (by omega)).1)
   ·refine sp_neg z (sp_iff ?_ all)
    have g:1≤i→F3 b c i:=Classical.byContradiction fun q=>z (hbad.2 q)
    constructor
    ·intro q
     exact⟨fun j' j0 j1 j2=>(q.1 i (Int.le_refl _) (by omega)).2 j' j0 j1 j2,fun i' i1 i2=>q.1 i' (by omega) i2,q.2⟩
    ·intro q
     refine⟨fun i' i1 i2=>?_,q.2.2⟩
     by_cases w:i'=i
     ·rw[w];exact⟨g,fun j' j0 j1 j2=>q.1 j' j0 j1 j2⟩
     ·exact q.2.1 i' (by omega) i2
  refine sp_k ?_
  simp only[Qag.l0]
  refine sp_pos (by omega) ?_
  rw[e1]
  by_cases z:i>0
  ·obtain⟨⟨bp1,bp2⟩,cp1,cp2⟩:=h.2.2 (i-1) (by omega) (by omega)
   have e5:wrap64 (rd b i+rd c (i-1))=rd b i+rd c (i-1):=w64 (by omega) (by omega)
   rw[e5]
   refine sp_pos z (sp_pos i0 (sp_pos (by omega) (sp_pos (by omega) (sp_pos (by omega) ?_))))
   by_cases y1:rd b i>rd b (i-1)
   ·exact sp_pos y1 (j2 true ⟨fun _ q=>by have:=(q (by omega)).1.1;omega,fun _=>rfl⟩)
   refine sp_neg y1 (sp_pos (by omega) (sp_pos (by omega) ?_))
   by_cases y2:rd c i<rd c (i-1)
   ·exact sp_pos y2 (j2 true ⟨fun _ q=>by have:=(q (by omega)).1.2;omega,fun _=>rfl⟩)
   refine sp_neg y2 (sp_pos (by omega) (j2 _ ?_))
   rw[decide_eq_true_eq]
   constructor
   ·intro w q
    have:=(q (by omega)).2
    omega
   ·intro w
    refine Classical.byContradiction fun v=>w fun _=>⟨⟨by omega,by omega⟩,by omega⟩
  ·exact sp_neg z (j2 false ⟨fun q=>absurd q (by simp),fun q=>absurd (fun i1=>by omega) q⟩)
theorem i_feas:SaysP (fun k=>Qag.f k b c) (Feas b c):=by
 have hl:=h.1
 have hc:=h.2.1
 obtain⟨e,he,hcase⟩:=i_lists b c
 have e0:e=0:=by
  rcases hcase with⟨_,q⟩|⟨q,_⟩
  ·exact q
  ·exact absurd h q
 have e1:wrap64 ((b.length:Int)-1)=(b.length:Int)-1:=w64 (by omega) (by omega)
 have bad:¬(rd c 0=1∧rd c ((b.length:Int)-1)≤rd b 0)→SaysP (fun k=>Qag.j0 k b c (b.length:Int) true) (Feas b c):=fun q=>by
  refine sp_k ?_
  simp only[Qag.j0]
  exact sp_pos trivial (sp_no fun f=>q f.1)
 unfold Qag.f
 refine sp_bind he (sp_pos e0 (sp_pos (by omega) ?_))
 rw[e1]
 by_cases z1:rd c 0=1
 ·refine sp_pos z1 (sp_pos (by omega) (sp_pos (by omega) (sp_pos (by omega) ?_)))
  by_cases z2:rd c ((b.length:Int)-1)>rd b 0
  ·rw[decide_eq_true z2]
   exact bad fun q=>by have:=q.2;omega
  ·rw[decide_eq_false z2]
   refine sp_k ?_
   simp only[Qag.j0]
   refine sp_neg (by simp) (sp_iff ⟨fun q=>q.2,fun q=>⟨⟨z1,by omega⟩,q⟩⟩ (i_feas_l0 h b.length 0 (Int.le_refl 0) (by omega)))
 ·exact sp_neg z1 (bad fun q=>z1 q.1)
theorem s_feas_l2 (d:Nat):∀(good:Bool) (i:Int),1≤i→b.length+1-i=d→SaysP (fun k=>Qaf.l2 k b c (b.length:Int) good i) (good=true∧∀i':Int,i≤i'→i'≤b.length→∀j:Int,0≤j→j<b.length→i'+j≤b.length→rd c (i'-1)≤rd b j):=by
 have hl:=h.1
 have hc:=h.2.1
 induction d with
 |zero=>
  intro good i i0 hd
  refine sp_k ?_
  simp only[Qaf.l2]
  exact sp_neg (by omega) (sp_now _ ⟨fun q=>⟨q,fun i' _ _=>by omega⟩,fun q=>q.1⟩)
 |succ d ih=>
  intro good i i0 hd
  have e1:wrap64 (i-1)=i-1:=w64 (by omega) (by omega)
  have e2:wrap64 (i+1)=i+1:=w64 (by omega) (by omega)
  have inner:∀(e:Nat) (good:Bool) (j:Int),0≤j→b.length-j=e→SaysP (fun k=>Qaf.l3 k b c (b.length:Int) good i j) (good=true∧(∀j':Int,j≤j'→j'<b.length→i+j'≤b.length→rd c (i-1)≤rd b j')∧∀i':Int,i+1≤i'→i'≤b.length→∀j:Int,0≤j→j<b.length→i'+j≤b.length→rd c (i'-1)≤rd b j):=by
   intro e
   induction e with
   |zero=>
    intro good j j0 hj
    refine sp_k ?_
    simp only[Qaf.l3]
    rw[e2]
    exact sp_neg (by omega) (sp_iff ⟨fun q=>⟨q.1,q.2.2⟩,fun q=>⟨q.1,fun j' _ _=>by omega,q.2⟩⟩ (ih good (i+1) (by omega) (by omega)))
   |succ e ihe=>
    intro good j j0 hj
    have e3:wrap64 (i+j)=i+j:=w64 (by omega) (by omega)
    have e4:wrap64 (j+1)=j+1:=w64 (by omega) (by omega)
    refine sp_k ?_
    simp only[Qaf.l3]
    rw[e1,e2,e3,e4]
    refine sp_pos (by omega) ?_
    by_cases z:i+j≤b.length
    ·refine sp_pos z ?_
     by_cases y:good=true
     ·refine sp_pos y (sp_pos (by omega) (sp_pos (by omega) (sp_pos j0 (sp_pos (by omega) ?_))))
      refine sp_iff ?_ (ihe (decide (rd c (i-1)≤rd b j)) (j+1) (by omega) (by omega))
      rw[decide_eq_true_eq]
      constructor
      ·intro q
       exact⟨q.2.1 j (Int.le_refl _) (by omega) z,fun j' g0 g1 g2=>q.2.1 j' (by omega) g1 g2,q.2.2⟩
      ·intro q
       refine⟨y,fun j' g0 g1 g2=>?_,q.2.2⟩
       by_cases w:j'=j
       ·rw[w];exact q.1
       ·exact q.2.1 j' (by omega) g1 g2
     ·refine sp_neg y (sp_iff ?_ (ihe false (j+1) (by omega) (by omega)))
      exact⟨fun q=>absurd q.1 y,fun q=>absurd q.1 (by simp)⟩
    ·refine sp_neg z (sp_iff ⟨fun q=>⟨q.1,q.2.2⟩,fun q=>⟨q.1,fun j' g0 g1 g2=>by omega,q.2⟩⟩ (ih good (i+1) (by omega) (by omega)))
  refine sp_k ?_
  simp only[Qaf.l2]
  refine sp_pos (by omega) (sp_iff ?_ (inner b.length good 0 (Int.le_refl 0) (by omega)))
  constructor
  ·intro q
   exact⟨q.1,fun j' g0 g1 g2=>q.2 i (Int.le_refl _) (by omega) j' g0 g1 g2,fun i' i1 i2=>q.2 i' (by omega) i2⟩
  ·intro q
   refine⟨q.1,fun i' i1 i2=>?_⟩
   by_cases w:i'=i
   ·rw[w];exact fun j' g0 g1 g2=>q.2.1 j' g0 g1 g2
   ·exact q.2.2 i' (by omega) i2
theorem s_feas_l1 (d:Nat):∀(good:Bool) (i:Int),1≤i→i≤b.length→b.length-i=d→SaysP (fun k=>Qaf.l1 k b c (b.length:Int) good i) (good=true∧(∀i':Int,i≤i'→i'<b.length→F3 b c i')∧∀i':Int,1≤i'→i'≤b.length→∀j:Int,0≤j→j<b.length→i'+j≤b.length→rd c (i'-1)≤rd b j):=by
 have hl:=h.1
 have hc:=h.2.1
 induction d with
 |zero=>
  intro good i i0 i1 hd
  refine sp_k ?_
  simp only[Qaf.l1]
  exact sp_neg (by omega) (sp_iff ⟨fun q=>⟨q.1,q.2.2⟩,fun q=>⟨q.1,fun i' _ _=>by omega,q.2⟩⟩ (s_feas_l2 h b.length good 1 (Int.le_refl 1) (by omega)))
 |succ d ih=>
  intro good i i0 i1 hd
  have e1:wrap64 (i-1)=i-1:=w64 (by omega) (by omega)
  have e2:wrap64 (i+1)=i+1:=w64 (by omega) (by omega)
  obtain⟨⟨bi1,bi2⟩,ci1,ci2⟩:=h.2.2 i (by omega) (by omega)
  obtain⟨⟨bp1,bp2⟩,cp1,cp2⟩:=h.2.2 (i-1) (by omega) (by omega)
  have e5:wrap64 (rd b i+rd c (i-1))=rd b i+rd c (i-1):=w64 (by omega) (by omega)
  have step:∀q:Bool,(q=true↔good=true∧F3 b c i)→SaysP (fun k=>Qaf.l1 k b c (b.length:Int) q (i+1)) (good=true∧(∀i':Int,i≤i'→i'<b.length→F3 b c i')∧∀i':Int,1≤i'→i'≤b.length→∀j:Int,0≤j→j<b.length→i'+j≤b.length→rd c (i'-1)≤rd b j):=by
   intro q hq
   refine sp_iff ?_ (ih q (i+1) (by omega) (by omega) (by omega))
   rw[hq]
   constructor
   ·intro w
    exact⟨⟨w.1,w.2.1 i (Int.le_refl _) (by omega)⟩,fun i' g0 g1=>w.2.1 i' (by omega) g1,w.2.2⟩
   ·intro w
    refine⟨w.1.1,fun i' g0 g1=>?_,w.2.2⟩
    by_cases y:i'=i
    ·rw[y];exact w.1.2
    ·exact w.2.1 i' (by omega) g1
  refine sp_k ?_
  simp only[Qaf.l1]
  rw[e1,e2,e5]
  refine sp_pos (by omega) ?_
  by_cases y:good=true
  ·refine sp_pos y (sp_pos (by omega) (sp_pos (by omega) (sp_pos (by omega) (sp_pos (by omega) ?_))))
   by_cases y1:rd b i≤rd b (i-1)
   ·refine sp_pos y1 (sp_pos (by omega) (sp_pos (by omega) ?_))
    by_cases y2:rd c i≥rd c (i-1)
    ·refine sp_pos y2 (sp_pos (by omega) (step _ ?_))
     rw[decide_eq_true_eq]
     exact⟨fun w=>⟨y,⟨y1,y2⟩,w⟩,fun w=>w.2.2⟩
    ·exact sp_neg y2 (step false ⟨fun q=>absurd q (by simp),fun q=>absurd q.2.1.2 y2⟩)
   ·exact sp_neg y1 (step false ⟨fun q=>absurd q (by simp),fun q=>absurd q.2.1.1 y1⟩)
  ·exact sp_neg y (step false ⟨fun q=>absurd q (by simp),fun q=>absurd q.1 y⟩)
theorem s_feas_l0 {xs:List Int} (hx:xs.length≤11) (h0:∀j:Int,0≤j→j<xs.length→0≤rd xs j) (d:Nat):∀(good:Bool) (i s:Int),0≤i→xs.length-i=d→0≤s→s≤i→SaysP (fun k=>Qaf.l0 k b c xs (b.length:Int) good s i) (good=true∧(s+parN xs d i)*rd b 0 % 2=0∧(∀i':Int,1≤i'→i'<b.length→F3 b c i')∧∀i':Int,1≤i'→i'≤b.length→∀j:Int,0≤j→j<b.length→i'+j≤b.length→rd c (i'-1)≤rd b j):=by
 have hl:=h.1
 obtain⟨⟨b1,b2⟩,_⟩:=h.2.2 0 (Int.le_refl 0) (by omega)
 induction d with
 |zero=>
  intro good i s i0 hd s0 s1
  have m0:0≤s*rd b 0:=Int.mul_nonneg s0 (by omega)
  have m1:s*rd b 0≤11*62:=Int.mul_le_mul (by omega) b2 (by omega) (by omega)
  have e1:wrap64 (s*rd b 0)=s*rd b 0:=w64 (by omega) (by omega)
  refine sp_k ?_
  simp only[Qaf.l0]
  rw[e1,tmod2 m0]
  refine sp_neg (by omega) ?_
  by_cases y:good=true
  ·refine sp_pos y (sp_pos (by omega) (sp_k ?_))
   simp only[Qaf.j2]
   refine sp_iff ?_ (s_feas_l1 h (b.length-1) (s*rd b 0 % 2==0) 1 (Int.le_refl 1) (by omega) (by omega))
   rw[beq_iff_eq]
   simp only[parN,Int.add_zero]
   exact⟨fun q=>q.2,fun q=>⟨y,q⟩⟩
  ·refine sp_neg y (sp_k ?_)
   simp only[Qaf.j2]
   exact sp_iff ⟨fun q=>absurd q.1 y,fun q=>absurd q.1 (by simp)⟩ (s_feas_l1 h (b.length-1) false 1 (Int.le_refl 1) (by omega) (by omega))
 |succ d ih=>
  intro good i s i0 hd s0 s1
  have e1:=tmod2 (h0 i i0 (by omega))
  have e2:wrap64 (s+rd xs i % 2)=s+rd xs i % 2:=w64 (by omega) (by omega)
  have e3:wrap64 (i+1)=i+1:=w64 (by omega) (by omega)
  refine sp_k ?_
  simp only[Qaf.l0]
  rw[e1,e2,e3]
  refine sp_pos (by omega) (sp_pos i0 (sp_iff ?_ (ih good (i+1) (s+rd xs i % 2) (by omega) (by omega) (by omega) (by omega))))
  simp only[parN]
  rw[Int.add_assoc]
theorem s_feas:SaysP (fun k=>Qaf.f k b c) (Feas b c):=by
 have hl:=h.1
 have hc:=h.2.1
 obtain⟨p,hs,_,hp,hcase⟩:=numbers_both h
 have e1:wrap64 ((c.length:Int)-1)=(b.length:Int)-1:=by rw[w64 (by omega) (by omega)];omega
 have conv:(∀i:Int,0≤i→i<b.length→(1≤i→F3 b c i)∧∀j:Int,0≤j→j<b.length→i+1+j≤b.length→rd c i≤rd b j)↔(∀i':Int,1≤i'→i'<b.length→F3 b c i')∧∀i':Int,1≤i'→i'≤b.length→∀j:Int,0≤j→j<b.length→i'+j≤b.length→rd c (i'-1)≤rd b j:=by
  constructor
  ·intro q
   exact⟨fun i' g0 g1=>(q i' (by omega) g1).1 g0,fun i' g0 g1 j j0 j1 j2=>(q (i'-1) (by omega) (by omega)).2 j j0 j1 (by omega)⟩
  ·intro q i i0 i1
   refine⟨fun g=>q.1 i g i1,fun j j0 j1 j2=>?_⟩
   have:=q.2 (i+1) (by omega) (by omega) j j0 j1 j2
   rwa [Int.add_sub_cancel]at this
 have j0:∀good:Bool,(good=true↔rd c 0=1∧rd c ((b.length:Int)-1)≤rd b 0)→p.2=true→NumOK b c p.1→(∀j:Int,0≤j→j≤b.length→0≤rd p.1 j)→SaysP (fun k=>Qaf.j0 k b c p.1 (b.length:Int) good 0) (Feas b c):=by
  intro good hg h1 h2 h3
  refine sp_k ?_
  simp only[Qaf.j0]
  refine sp_iff ?_ (s_feas_l0 h hp (fun j j0 j1=>h3 j j0 (by have:=h2.1;omega)) p.1.length good 0 0 (Int.le_refl 0) (by omega) (Int.le_refl 0) (Int.le_refl 0))
  rw[hg,Int.zero_add]
  unfold Feas
  rw[conv]
  constructor
  ·rintro⟨q1,q2,xs,hx,hy⟩
   obtain rfl:=hx.uniq h h2
   exact⟨q1,hy,q2⟩
  ·rintro⟨q1,q2,q3⟩
   exact⟨q1,q3,p.1,h2,q2⟩
 unfold Qaf.f
 refine sp_bind ((s_lists b c).yes h) (sp_pos rfl (sp_bind hs ?_))
 rcases hcase with⟨h1,h2,h3⟩|⟨rfl,h2⟩
 ·refine sp_pos h1 (sp_pos (by omega) ?_)
  rw[e1]
  by_cases z1:rd c 0=1
  ·refine sp_pos z1 (sp_pos (by omega) (sp_pos (by omega) (sp_pos (by omega) (j0 _ ?_ h1 h2 h3))))
   rw[decide_eq_true_eq]
   exact⟨fun q=>⟨z1,q⟩,fun q=>q.2⟩
  ·exact sp_neg z1 (j0 false ⟨fun q=>absurd q (by simp),fun q=>absurd q.1 z1⟩ h1 h2 h3)
 ·refine sp_neg (by simp) (sp_k ?_)
  simp only[Qaf.j0]
  refine sp_iff ?_ (s_feas_l0 h (xs:=[]) (by simp) (fun j j0 j1=>absurd j1 (by simp;omega)) 0 false 0 0 (Int.le_refl 0) (by simp) (Int.le_refl 0) (Int.le_refl 0))
  refine⟨fun q=>?_,fun q=>absurd q.1 (by simp)⟩
  obtain⟨xs,hx,_⟩:=q.2.2
  exact absurd hx (h2 xs)
end
theorem feas_both (b c:List Int):∃q e,Ev (fun k=>Qaf.f k b c) (q,e)∧Ev (fun k=>Qag.f k b c) (q,e)∧(okL b c→Feas b c→q=true∧e=0):=by
 by_cases h:okL b c
 ·obtain⟨q,hs,e1⟩:=s_feas h
  obtain⟨q',hi,e2⟩:=i_feas h
  obtain rfl:q=q':=Bool.eq_iff_iff.2 (e1.trans e2.symm)
  exact⟨q,0,hs,hi,fun _ f=>⟨e1.2 f,rfl⟩⟩
 ·obtain⟨e,he,hcase⟩:=i_lists b c
  rcases hcase with⟨q,_⟩|⟨_,rfl⟩
  ·exact absurd q h
  ·refine⟨false,2,?_,?_,fun q=>absurd q h⟩
   ·unfold Qaf.f
    exact Ev.bind ((s_lists b c).no h) (ev_neg (by decide) (Ev.now _))
   ·unfold Qag.f
    exact Ev.bind he (ev_neg (by decide) (Ev.now _))
theorem cn_le {r r' ws:List Int} {t t':Int} (h:∀u ∈ ws,rd r u=t→rd r' u=t'):cn r ws t≤cn r' ws t':=by
 induction ws with
 |nil=>exact Int.le_refl _
 |cons w ws ih=>
  have a:=cn_app r [w] ws t
  have b:=cn_app r' [w] ws t'
  rw[List.singleton_append]at a b
  rw[a,b,cn_one,cn_one]
  have:=ih fun u hu=>h u (List.mem_cons_of_mem _ hu)
  by_cases z:rd r w=t
  ·rw[if_pos z,if_pos (h w List.mem_cons_self z)]
   omega
  ·rw[if_neg z]
   split<;>omega
theorem cn_two {r ws:List Int} {t t':Int} (h:t≠t'):cn r ws t+cn r ws t'≤ws.length:=by
 induction ws with
 |nil=>exact Int.le_refl _
 |cons w ws ih=>
  have a:=cn_app r [w] ws t
  have b:=cn_app r [w] ws t'
  rw[List.singleton_append]at a b
  rw[a,b,cn_one,cn_one,List.length_cons]
  by_cases z:rd r w=t
  ·rw[if_pos z,if_neg fun q=>h (z.symm.trans q)]
   omega
  ·rw[if_neg z]
   split<;>omega
theorem cn_all {r ws:List Int} {t:Int} (h:∀u ∈ ws,rd r u=t):cn r ws t=ws.length:=by
 unfold cn
 rw[List.filter_eq_self.2 fun u hu=>by simpa using h u hu]
theorem cn_sm {n x:Int} (n0:0≤n) (n2:n≤62) (x0:0≤x) (x1:x<2 ^ n.toNat) (r:List Int) (t:Int):cn r (ones x) t=sm (fun u=>if tb x u=true then(if rd r u=t then 1 else 0)else 0) n.toNat:=by
 have key:∀(d m:Nat),cn r (onesFrom x.toNat d m) t+sm (fun u=>if tb x u=true then(if rd r u=t then 1 else 0)else 0) m=sm (fun u=>if tb x u=true then(if rd r u=t then 1 else 0)else 0) (m+d):=by
  intro d
  induction d with
  |zero=>intro m;simp[onesFrom,cn_nil]
  |succ d ih=>
   intro m
   have e:=ih (m+1)
   rw[show m+(d+1)=m+1+d by omega,← e]
   simp only[onesFrom,sm]
   have eb:tb x (m:Int)=x.toNat.testBit m:=by rw[tb_toNat x0 (by omega),Int.toNat_natCast]
   by_cases z:x.toNat.testBit m=true
   ·rw[if_pos z,eb,if_pos z,← List.singleton_append,cn_app,cn_one]
    omega
   ·rw[if_neg z,eb,if_neg z]
    omega
 have:=key n.toNat 0
 rw[ones_to n0 n2 x0 x1]
 simpa[sm] using this
section
variable {n:Int} {l:List Int} (h:isG n l) (hj:joinedG n l)
include h hj
theorem adj_le {v w u:Int} (hv:0≤v∧v<n) (hw:0≤w∧w<n) (hu:0≤u∧u<n) (ht:tb (rd l w) u=true):rd (dist n l v) u≤rd (dist n l v) w+1:=by
 have hd:=dist_of n l v (by omega)
 have a:=joined_all h hj hv.1 hv.2 hw.1 hw.2
 refine Classical.byContradiction fun q=>?_
 have:=(hd.next (rd (dist n l v) w) u a hu.1 hu.2).2 ⟨⟨w,hw,rfl,ht⟩,by omega⟩
 omega
omit hj in
theorem adj_sym {w u:Int} (hw:0≤w∧w<n) (hu:0≤u∧u<n) (ht:tb (rd l w) u=true):tb (rd l u) w=true:=by
 rw[← h.2.2 w u hw.1 hw.2 hu.1 hu.2]
 exact ht
omit hj in
theorem nb_mem {w u:Int} (hw:0≤w∧w<n):u ∈ ones (rd l w)↔(0≤u∧u<n)∧tb (rd l w) u=true:=by
 have hr:=h.1.2.2.2 w hw.1 hw.2
 have:=ones_mem (n:=n) (by omega) h.1.2.1 hr.1 hr.2 u
 rw[this]
 constructor
 ·rintro⟨a,b,c⟩
  exact⟨⟨a,b⟩,c⟩
 ·rintro⟨⟨a,b⟩,c⟩
  exact⟨a,b,c⟩
theorem tri {v w:Int} (hv:0≤v∧v<n) (_:0≤w∧w<n) (k:Nat):∀u:Int,0≤u∧u<n→rd (dist n l w) u=k→rd (dist n l v) u≤rd (dist n l v) w+k:=by
 have hd:=dist_of n l w (by omega)
 induction k with
 |zero=>
  intro u hu e
  have:=(hd.src u hu.1 hu.2).1 e
  rw[this]
  omega
 |succ k ih=>
  intro u hu e
  obtain⟨⟨x,hx,ex,ht⟩,_⟩:=(hd.next k u (by omega) hu.1 hu.2).1 e
  have a:=ih x hx ex
  have b:=adj_le h hj hv hx hu ht
  omega
theorem tri_le {v w u:Int} (hv:0≤v∧v<n) (hw:0≤w∧w<n) (hu:0≤u∧u<n):rd (dist n l v) u≤rd (dist n l v) w+rd (dist n l w) u:=by
 have a:=joined_all h hj hw.1 hw.2 hu.1 hu.2
 have:=tri h hj hv hw (rd (dist n l w) u).toNat u hu (by omega)
 omega
theorem geo {v:Int} (hv:0≤v∧v<n) (i:Int) (i0:0≤i) (j:Nat):∀u:Int,0≤u∧u<n→rd (dist n l v) u=i+j→∃w,(0≤w∧w<n)∧rd (dist n l v) w=i∧rd (dist n l u) w=j:=by
 have hd:=dist_of n l v (by omega)
 induction j with
 |zero=>
  intro u hu e
  have hdu:=dist_of n l u (by omega)
  exact⟨u,hu,by omega,(hdu.src u hu.1 hu.2).2 rfl⟩
 |succ j ih=>
  intro u hu e
  obtain⟨⟨x,hx,ex,ht⟩,_⟩:=(hd.next (i+j) u (by omega) hu.1 hu.2).1 (by omega)
  obtain⟨w,hw,e1,e2⟩:=ih x hx ex
  have s1:=dist_sym h hu.1 hu.2 hw.1 hw.2
  have s2:=dist_sym h hx.1 hx.2 hw.1 hw.2
  have a:=adj_le h hj hw hx hu ht
  have b:=tri_le h hj hv hw hu
  exact⟨w,hw,e1,by omega⟩
theorem deg_all {w:Int} (hw:0≤w∧w<n):upN n l w w=(ones (rd l w)).length:=by
 have hd:=dist_of n l w (by omega)
 have e0:=(hd.src w hw.1 hw.2).2 rfl
 unfold upN
 rw[e0]
 refine cn_all fun u hu=>?_
 obtain⟨hu2,ht⟩:=(nb_mem h hw).1 hu
 have a:=adj_le h hj hw hw hu2 ht
 have b:=joined_all h hj hw.1 hw.2 hu2.1 hu2.2
 have:rd (dist n l w) u≠0:=fun q=>by
  have e:=(hd.src u hu2.1 hu2.2).1 q
  rw[e,h.2.1 w hw.1 hw.2]at ht
  cases ht
 omega
section
variable {b c:List Int} (hb:IsB n l b) (hc:IsC n l c)
include hb hc
omit h hj hc in
theorem b_at {v w i:Int} (hv:0≤v∧v<n) (hw:0≤w∧w<n) (e:rd (dist n l v) w=i) (hi:i<b.length):rd b i=upN n l v w:=by
 have:=hb.2 v w ⟨hv,hw⟩ (by have:=hb.1;omega)
 rwa [e]at this
omit h hj hb in
theorem c_at {v w i:Int} (hv:0≤v∧v<n) (hw:0≤w∧w<n) (e:rd (dist n l v) w=i+1) (hi:0≤i):rd c i=dnN n l v w:=by
 have:=hc.2 v w ⟨hv,hw⟩ (by omega)
 rwa [e,Int.add_sub_cancel]at this
omit hj in
theorem arr_ok (l1:1≤b.length) (l2:b.length≤10):okL b c:=by
 have hD:=hb.1
 have hC:=hc.1
 refine⟨⟨l1,l2⟩,by omega,fun i i0 i1=>?_⟩
 obtain⟨v,w,⟨hv,hw⟩,e,hp⟩:=up_some h i0 (by omega)
 obtain⟨v',w',⟨hv',hw'⟩,e'⟩:=level_at h (i:=i+1) (by omega) (by omega)
 have eb:=b_at hb hv hw e i1
 have ec:=c_at hc hv' hw' e' i0
 have p:=dn_pos h hv' hw' (by omega)
 have o1:=ones_length (rd l w)
 have o2:=ones_length (rd l w')
 have r1:=cn_range (dist n l v) (ones (rd l w)) (rd (dist n l v) w+1)
 have r2:=cn_range (dist n l v') (ones (rd l w')) (rd (dist n l v') w'-1)
 unfold upN at eb hp
 unfold dnN at ec p
 omega
omit hj in
theorem arr_c0 (l1:1≤b.length):rd c 0=1:=by
 have hD:=hb.1
 have n2:=h.1.2.1
 obtain⟨v,w,⟨hv,hw⟩,e⟩:=level_at h (i:=1) (by omega) (by omega)
 have ec:=c_at hc hv hw (i:=0) (by omega) (Int.le_refl 0)
 rw[ec]
 unfold dnN
 rw[e,show(1:Int)-1=0 from rfl]
 have hr:=h.1.2.2.2 w hw.1 hw.2
 have hd:=dist_of n l v (by omega)
 rw[cn_sm (n:=n) (by omega) n2 hr.1 hr.2]
 obtain⟨⟨x,hx,ex,ht⟩,_⟩:=(hd.next 0 w (Int.le_refl 0) hw.1 hw.2).1 (by omega)
 have xv:=(hd.src x hx.1 hx.2).1 ex
 subst xv
 have e2:sm (fun u=>if tb (rd l w) u=true then(if rd (dist n l x) u=0 then 1 else 0)else 0) n.toNat=sm (fun u=>if u=x then 1 else 0) n.toNat:=sm_congr _ fun u u0 u1=>by
  by_cases z:u=x
  ·subst z
   rw[if_pos (adj_sym h hx hw ht),if_pos ex,if_pos rfl]
  ·rw[if_neg z]
   have:rd (dist n l x) u≠0:=fun q=>z ((hd.src u u0 (by omega)).1 q)
   rw[if_neg this]
   split<;>rfl
 rw[e2]
 exact sm_one x (fun _=>1) n.toNat hx.1 (by omega)
omit hc in
theorem arr_deg (l1:1≤b.length) {w:Int} (hw:0≤w∧w<n):rd b 0=(ones (rd l w)).length:=by
 have hd:=dist_of n l w (by omega)
 rw[b_at hb hw hw ((hd.src w hw.1 hw.2).2 rfl) (by omega)]
 exact deg_all h hj hw
theorem arr_F3 {i:Int} (i1:1≤i) (i2:i<b.length):F3 b c i:=by
 have hD:=hb.1
 have hC:=hc.1
 obtain⟨v,u,⟨hv,hu⟩,e⟩:=level_at h (i:=i) (by omega) (by omega)
 have hdu:=dist_of n l u (by omega)
 have s0:=dist_sym h hv.1 hv.2 hu.1 hu.2
 obtain⟨⟨w,hw,ew,ht⟩,_⟩:=(hdu.next (i-1) v (by omega) hv.1 hv.2).1 (by omega)
 have s1:=dist_sym h hw.1 hw.2 hu.1 hu.2
 have near:∀x:Int,0≤x∧x<n→rd (dist n l w) x≤rd (dist n l v) x+1∧rd (dist n l v) x≤rd (dist n l w) x+1:=fun x hx=>by
  have a:=adj_le h hj hx hw hv ht
  have b:=adj_le h hj hx hv hw (adj_sym h hw hv ht)
  have s2:=dist_sym h hx.1 hx.2 hv.1 hv.2
  have s3:=dist_sym h hx.1 hx.2 hw.1 hw.2
  omega
 have eb:=b_at hb hv hu e i2
 have eb':=b_at hb hw hu (i:=i-1) (by omega) (by omega)
 refine⟨⟨?_,?_⟩,?_⟩
 ·rw[eb,eb']
  unfold upN
  refine cn_le fun x hx q=>?_
  obtain⟨hx,hxt⟩:=(nb_mem h hu).1 hx
  have a:=near x hx
  have b:=adj_le h hj hw hu hx hxt
  omega
 ·by_cases z:i=1
  ·subst z
   have c0:=arr_c0 h hb hc (by omega)
   obtain⟨v2,u2,⟨hv2,hu2⟩,e2⟩:=level_at h (i:=1+1) (by omega) (by omega)
   have ec2:=c_at hc hv2 hu2 (i:=1) e2 (by omega)
   have p:=dn_pos h hv2 hu2 (by omega)
   rw[show(1:Int)-1=0 from rfl,c0,ec2]
   omega
  ·obtain⟨v2,u2,⟨hv2,hu2⟩,e2⟩:=level_at h (i:=i+1) (by omega) (by omega)
   have hdu2:=dist_of n l u2 (by omega)
   have t0:=dist_sym h hv2.1 hv2.2 hu2.1 hu2.2
   obtain⟨⟨w2,hw2,ew2,ht2⟩,_⟩:=(hdu2.next i v2 (by omega) hv2.1 hv2.2).1 (by omega)
   have t1:=dist_sym h hw2.1 hw2.2 hu2.1 hu2.2
   have ec:=c_at hc hv2 hu2 (i:=i) e2 (by omega)
   have ec':=c_at hc hw2 hu2 (i:=i-1) (by omega) (by omega)
   rw[ec,ec']
   unfold dnN
   refine cn_le fun x hx q=>?_
   obtain⟨hx,hxt⟩:=(nb_mem h hu2).1 hx
   have a:=adj_le h hj hx hw2 hv2 ht2
   have b:=adj_le h hj hv2 hx hu2 (adj_sym h hu2 hx hxt)
   have s2:=dist_sym h hx.1 hx.2 hv2.1 hv2.2
   have s3:=dist_sym h hx.1 hx.2 hw2.1 hw2.2
   omega
 ·have ec:=c_at hc hv hu (i:=i-1) (by omega) (by omega)
  rw[eb,ec,arr_deg h hj hb (by omega) hu]
  unfold upN dnN
  exact cn_two (by omega)
theorem arr_F4 {i j:Int} (i0:0≤i) (j0:0≤j) (hij:i+1+j≤b.length):rd c i≤rd b j:=by
 have hD:=hb.1
 obtain⟨v,u,⟨hv,hu⟩,e⟩:=level_at h (i:=i+1+j) (by omega) (by omega)
 obtain⟨w,hw,e1,e2⟩:=geo h hj hv (i+1) (by omega) j.toNat u hu (by omega)
 have ec:=c_at hc hv hw e1 i0
 have eb:=b_at hb hu hw (i:=j) (by omega) (by omega)
 rw[ec,eb]
 unfold upN dnN
 refine cn_le fun x hx q=>?_
 obtain⟨hx,hxt⟩:=(nb_mem h hw).1 hx
 have a:=adj_le h hj hu hw hx hxt
 have t:=tri_le h hj hv hx hu
 have s:=dist_sym h hx.1 hx.2 hu.1 hu.2
 omega
noncomputable def kc (n:Int) (l:List Int) (i:Int):Int:=sm (fun u=>if rd (dist n l 0) u=i then 1 else 0) n.toNat
omit hj in
theorem kc_step {i:Int} (i0:0≤i) (i1:i<b.length):kc n l (i+1)*rd c i=kc n l i*rd b i:=by
 have n1:=h.1.1
 have n2:=h.1.2.1
 have z:0≤(0:Int)∧0<n:=by omega
 unfold kc
 rw[← sm_mul (fun u=>rd (dist n l 0) u=i+1),← sm_mul (fun u=>rd (dist n l 0) u=i)]
 have e1:sm (fun u=>if rd (dist n l 0) u=i+1 then rd c i else 0) n.toNat=sm (fun u=>sm (fun w=>if rd (dist n l 0) u=i+1 then(if tb (rd l u) w=true then(if rd (dist n l 0) w=i then 1 else 0)else 0)else 0) n.toNat) n.toNat:=sm_congr _ fun u u0 u1=>by
  rw[← sm_ite]
  by_cases y:rd (dist n l 0) u=i+1
  ·rw[if_pos y,if_pos y,c_at hc z ⟨u0,by omega⟩ y i0]
   have hr:=h.1.2.2.2 u u0 (by omega)
   unfold dnN
   rw[cn_sm (n:=n) (by omega) n2 hr.1 hr.2,y,Int.add_sub_cancel]
  ·rw[if_neg y,if_neg y]
 have e2:sm (fun w=>if rd (dist n l 0) w=i then rd b i else 0) n.toNat=sm (fun w=>sm (fun u=>if rd (dist n l 0) w=i then(if tb (rd l w) u=true then(if rd (dist n l 0) u=i+1 then 1 else 0)else 0)else 0) n.toNat) n.toNat:=sm_congr _ fun w w0 w1=>by
  rw[← sm_ite]
  by_cases y:rd (dist n l 0) w=i
  ·rw[if_pos y,if_pos y,b_at hb z ⟨w0,by omega⟩ y i1]
   have hr:=h.1.2.2.2 w w0 (by omega)
   unfold upN
   rw[cn_sm (n:=n) (by omega) n2 hr.1 hr.2,y]
  ·rw[if_neg y,if_neg y]
 rw[e1,e2,sm_swap]
 refine sm_congr _ fun w w0 w1=>sm_congr _ fun u u0 u1=>?_
 rw[h.2.2 u w u0 (by omega) w0 (by omega)]
 by_cases a:rd (dist n l 0) u=i+1<;>by_cases b:rd (dist n l 0) w=i<;>by_cases c:tb (rd l w) u=true<;>simp[a,b,c]
omit hj hc in
theorem far0 (i:Nat):(i:Int)≤b.length→∃u,(0≤u∧u<n)∧rd (dist n l 0) u=i:=by
 have n1:=h.1.1
 have hD:=hb.1
 induction i with
 |zero=>intro _;exact⟨0,by omega,((dist_of n l 0 (by omega)).src 0 (by omega) (by omega)).2 rfl⟩
 |succ i ih=>
  intro hi
  obtain⟨w,hw,e⟩:=ih (by omega)
  obtain⟨v',w',⟨hv',hw'⟩,e',hp⟩:=up_some h (i:=i) (by omega) (by omega)
  have e1:=b_at hb hv' hw' e' (by omega)
  have e2:=b_at hb (v:=0) (w:=w) (by omega) hw e (by omega)
  have hp2:0<upN n l 0 w:=by rw[← e2,e1];exact hp
  unfold upN at hp2
  refine Classical.byContradiction fun q=>?_
  have:=cn_zero (r:=dist n l 0) (ws:=ones (rd l w)) (t:=rd (dist n l 0) w+1) fun u hu eu=>q ⟨u,((nb_mem h hw).1 hu).1,by omega⟩
  omega
noncomputable def kl (n:Int) (l:List Int) (m:Nat):List Int:=(List.range m).map fun(j:Nat)=>kc n l (j:Int)
omit h hj hb hc in
theorem kl_len (m:Nat):(kl n l m).length=m:=by simp[kl]
omit h hj hb hc in
theorem kl_at (m:Nat) {i:Int} (i0:0≤i) (i1:i<m):rd (kl n l m) i=kc n l i:=by
 have:i.toNat<m:=by omega
 have e:((i.toNat:Nat):Int)=i:=by omega
 simp only[rd,kl,List.getD_eq_getElem?_getD]
 rw[List.getElem?_eq_getElem (by simpa using this)]
 simp[e]
omit hj hb hc in
theorem kc_zero:kc n l 0=1:=by
 have n1:=h.1.1
 have hd:=dist_of n l 0 (by omega)
 unfold kc
 have e:sm (fun u=>if rd (dist n l 0) u=0 then 1 else 0) n.toNat=sm (fun u=>if u=0 then 1 else 0) n.toNat:=sm_congr _ fun u u0 u1=>by
  by_cases z:u=0
  ·rw[if_pos z,if_pos ((hd.src u u0 (by omega)).2 z)]
  ·rw[if_neg z,if_neg fun q=>z ((hd.src u u0 (by omega)).1 q)]
 rw[e]
 exact sm_one 0 (fun _=>1) n.toNat (Int.le_refl 0) (by omega)
omit hj in
theorem kl_ok:NumOK b c (kl n l (b.length+1)):=by
 refine⟨kl_len _,?_,fun i i0 i1=>?_⟩
 ·rw[kl_at _ (Int.le_refl 0) (by omega)]
  exact kc_zero h
 ·rw[kl_at _ (by omega) (by omega),kl_at _ i0 (by omega)]
  exact kc_step h hb hc i0 i1
omit h hj hb hc in
theorem parN_mod (xs:List Int) (d:Nat):∀i:Nat,parN xs d i % 2=(sm (fun j=>rd xs j) (i+d)-sm (fun j=>rd xs j) i) % 2:=by
 induction d with
 |zero=>intro i;simp[parN]
 |succ d ih=>
  intro i
  have a:=ih (i+1)
  rw[show i+1+d=i+(d+1) by omega]at a
  simp only[parN,sm]at a ⊢
  rw[show((i+1:Nat):Int)=(i:Int)+1 from rfl]at a
  omega
omit hc in
theorem kl_sum:sm (fun j=>rd (kl n l (b.length+1)) j) (b.length+1)=n:=by
 have n1:=h.1.1
 have n2:=h.1.2.1
 have hD:=hb.1
 have e1:sm (fun j=>rd (kl n l (b.length+1)) j) (b.length+1)=sm (fun j=>sm (fun u=>if rd (dist n l 0) u=j then 1 else 0) n.toNat) (b.length+1):=sm_congr _ fun j j0 j1=>kl_at _ j0 j1
 rw[e1,sm_swap]
 have e2:sm (fun u=>sm (fun j=>if rd (dist n l 0) u=j then 1 else 0) (b.length+1)) n.toNat=sm (fun _=>1) n.toNat:=sm_congr _ fun u u0 u1=>by
  have a:=joined_all h hj (v:=0) (by omega) (by omega) u0 (by omega)
  have d:=diam_le l n1 n2 (v:=0) (by omega) (by omega) u0 (by omega)
  have e3:sm (fun j=>if rd (dist n l 0) u=j then 1 else 0) (b.length+1)=sm (fun j=>if j=rd (dist n l 0) u then 1 else 0) (b.length+1):=sm_congr _ fun j _ _=>by
   by_cases z:j=rd (dist n l 0) u
   ·rw[if_pos z,if_pos z.symm]
   ·rw[if_neg z,if_neg fun q=>z q.symm]
  rw[e3]
  exact sm_one _ (fun _=>1) _ a (by omega)
 rw[e2,sm_const]
 omega
omit hc in
theorem even_all (l1:1≤b.length):n*rd b 0 % 2=0:=by
 have n1:=h.1.1
 have n2:=h.1.2.1
 have e:sm (fun i=>sm (fun j=>if((0≤i∧i<n)∧0≤j∧j<n)∧tb (rd l i) j=true then(1:Int)else 0) n.toNat) n.toNat=n*rd b 0:=by
  have e1:sm (fun i=>sm (fun j=>if((0≤i∧i<n)∧0≤j∧j<n)∧tb (rd l i) j=true then(1:Int)else 0) n.toNat) n.toNat=sm (fun _=>rd b 0) n.toNat:=sm_congr _ fun i i0 i1=>by
   have hr:=h.1.2.2.2 i i0 (by omega)
   have a:=cn_sm (n:=n) (by omega) n2 hr.1 hr.2 [] 0
   have z0:∀u:Int,rd [] u=0:=fun u=>by simp[rd]
   rw[cn_all fun u _=>z0 u]at a
   rw[arr_deg h hj hb l1 ⟨i0,by omega⟩,a]
   refine sm_congr _ fun j j0 j1=>?_
   by_cases y:tb (rd l i) j=true
   ·rw[if_pos ⟨by omega,y⟩,if_pos y,if_pos (z0 j)]
   ·rw[if_neg fun q=>y q.2,if_neg y]
  rw[e1]
  have c1:∀(K:Int) (m:Nat),sm (fun _=>K) m=m*K:=by
   intro K m
   induction m with
   |zero=>simp[sm]
   |succ m ih=>
    simp only[sm,ih]
    rw[show((m+1:Nat):Int)=(m:Int)+1 from rfl,Int.add_mul,Int.one_mul]
  rw[c1,Int.toNat_of_nonneg (by omega)]
 rw[← e]
 refine sm_even _ (fun i j=>?_) (fun i=>?_) n.toNat
 ·by_cases y:(0≤i∧i<n)∧0≤j∧j<n
  ·rw[h.2.2 i j y.1.1 y.1.2 y.2.1 y.2.2]
   by_cases w:tb (rd l j) i=true
   ·rw[if_pos ⟨y,w⟩,if_pos ⟨⟨y.2,y.1⟩,w⟩]
   ·rw[if_neg fun q=>w q.2,if_neg fun q=>w q.2]
  ·rw[if_neg fun q=>y q.1,if_neg fun q=>y ⟨q.1.2,q.1.1⟩]
 ·by_cases y:0≤i∧i<n
  ·rw[if_neg fun q=>by have:=h.2.1 i y.1 y.2;rw[q.2]at this;cases this]
  ·rw[if_neg fun q=>y q.1.1]
theorem arr_feas (l1:1≤b.length):Feas b c:=by
 have hD:=hb.1
 have hC:=hc.1
 refine⟨⟨arr_c0 h hb hc l1,?_⟩,fun i i0 i1=>⟨fun g=>arr_F3 h hj hb hc g i1,fun j j0 j1 j2=>arr_F4 h hj hb hc i0 j0 j2⟩,kl n l (b.length+1),kl_ok h hb hc,?_⟩
 ·exact arr_F4 h hj hb hc (i:=(b.length:Int)-1) (j:=0) (by omega) (Int.le_refl 0) (by omega)
 ·rw[kl_len]
  have a:=parN_mod (kl n l (b.length+1)) (b.length+1) 0
  have s:=kl_sum h hj hb
  have e:=even_all h hj hb l1
  rw[Nat.zero_add,s]at a
  simp only[sm,Int.sub_zero]at a
  rw[show((0:Nat):Int)=0 from rfl]at a
  rw[Int.mul_emod,a,← Int.mul_emod]
  exact e
end
end
section
variable {n:Int} {l:List Int} (h:rows n l)
include h
end
def addAll (c:Int):List Int→List Int→List Int
 |a,[]=>a
 |a,w :: ws=>addAll c (a.set w.toNat (wrap64 (rd a w+c))) ws
theorem addAll_length (c:Int) (ws:List Int):∀a,(addAll c a ws).length=a.length:=by
 induction ws with
 |nil=>intro a;rfl
 |cons w ws ih=>intro a;simp[addAll,ih]
def nextFrom (l cur:List Int):Nat→Nat→List Int→List Int
 |0,_,a=>a
 |d+1,v,a=>nextFrom l cur d (v+1) (addAll (rd cur v) a (ones (rd l v)))
theorem nextFrom_length (l cur:List Int) (d:Nat):∀v a,(nextFrom l cur d v a).length=a.length:=by
 induction d with
 |zero=>intro v a;rfl
 |succ d ih=>intro v a;simp[nextFrom,ih,addAll_length]
def steps (l:List Int) (n:Int):Nat→List Int→List Int
 |0,a=>a
 |t+1,a=>steps l n t (nextFrom l a n.toNat 0 (List.replicate n.toNat 0))
theorem steps_length (l:List Int) (n:Int) (t:Nat):∀a:List Int,a.length=n.toNat→(steps l n t a).length=n.toNat:=by
 induction t with
 |zero=>intro a h;exact h
 |succ t ih=>intro a h;exact ih _ (by rw[nextFrom_length];simp)
theorem i_walks {n:Int} {l:List Int} (h:rows n l) {v t:Int} (v0:0≤v) (v1:v<n) (t0:0≤t) (t1:t≤1000):Ev (fun k=>Qan.f k n l v t) (steps l n t.toNat ((List.replicate n.toNat 0).set v.toNat 1)):=by
 have n1:=h.1
 have n2:=h.2.1
 have hl:=h.2.2.1
 have outer:∀(d:Nat) (s:Int) (a:List Int),0≤s→s≤t→t-s=d→a.length=n.toNat→Ev (fun k=>Qan.l0 k a t s n l) (steps l n d a):=by
  intro d
  induction d with
  |zero=>
   intro s a s0 s1 hd ha
   refine ev_k ?_
   simp only[Qan.l0]
   exact ev_neg (by omega) (Ev.now _)
  |succ d ih=>
   intro s a s0 s1 hd ha
   have mid:∀(e:Nat) (w:Nat) (b:List Int),(w:Int)≤n→n-w=e→b.length=n.toNat→Ev (fun k=>Qan.l1 k a b t s n w n l) (steps l n d (nextFrom l a e w b)):=by
    intro e
    induction e with
    |zero=>
     intro w b w1 he hb
     refine ev_k ?_
     simp only[Qan.l1]
     refine ev_neg (by omega) ?_
     rw[w64 (a:=s+1) (by omega) (by omega)]
     exact ih (s+1) b (by omega) (by omega) (by omega) hb
    |succ e ihe=>
     intro w b w1 he hb
     obtain⟨hr0,hr1⟩:=h.2.2.2 w (by omega) (by omega)
     have hp:=two_pow_le (n:=n) (by omega) n2
     have inner:∀(ws pre:List Int) (c:List Int),pre++ws=ones (rd l w)→c.length=n.toNat→Ev (fun k=>Qan.l2 k a c w t s n w (ones (rd l w)) (ones (rd l w)).length pre.length n l) (steps l n d (nextFrom l a e (w+1) (addAll (rd a w) c ws))):=by
      intro ws
      have ol:=ones_length (rd l w)
      induction ws with
      |nil=>
       intro pre c hp' hc
       rw[List.append_nil]at hp'
       refine ev_k ?_
       simp only[Qan.l2]
       refine ev_neg (by rw[hp'];omega) ?_
       have:=ihe (w+1) c (by omega) (by omega) hc
       rw[w64 (a:=(w:Int)+1) (by omega) (by omega)]
       exact this
      |cons u us ihu=>
       intro pre c hp' hc
       have hlen:pre.length<(ones (rd l w)).length:=by rw[← hp'];simp
       have hu:rd (ones (rd l w)) pre.length=u:=by
        rw[← hp']
        simp[rd,List.getD_eq_getElem?_getD]
       have hm:u ∈ ones (rd l w):=by rw[← hp'];simp
       obtain⟨u0,u1,_⟩:=(ones_mem (by omega) n2 hr0 hr1 u).1 hm
       have:=ihu (pre++[u]) (c.set u.toNat (wrap64 (rd c u+rd a w))) (by rw[← hp'];simp) (by simpa using hc)
       refine ev_k ?_
       simp only[Qan.l2,hu]
       refine ev_pos (by omega) (ev_pos (by omega) (ev_pos (by omega) (ev_pos u0 (ev_pos (by omega) (ev_pos (by omega) (ev_pos (by omega) ?_))))))
       rw[w64 (a:=(pre.length:Int)+1) (by omega) (by omega)]
       simpa[addAll] using this
     refine ev_k ?_
     simp only[Qan.l1]
     refine ev_pos (by omega) (ev_pos (by omega) (ev_pos (by omega) (Ev.bind (i_list hr0 (by omega)) ?_)))
     have:=inner (ones (rd l w)) [] b (by simp) hb
     simpa[nextFrom] using this
   refine ev_k ?_
   simp only[Qan.l0]
   refine ev_pos (by omega) (ev_pos (by omega) (ev_pos (by omega) ?_))
   exact mid n.toNat 0 (List.replicate n.toNat 0) (by omega) (by omega) (by simp)
 unfold Qan.f
 refine ev_pos (by omega) (ev_pos (by omega) ?_)
 simp only[Option.bind_some]
 refine ev_pos v0 (ev_pos (by simp;omega) ?_)
 exact outer t.toNat 0 _ (by omega) t0 (by omega) (by simp)
def walksN (n:Int) (l:List Int) (v u t:Int):Int:=rd (steps l n t.toNat ((List.replicate n.toNat 0).set v.toNat 1)) u
def cnt (n:Nat) (l:List Int) (v:Int):Nat→Int→Int
 |0,u=>if u=v then 1 else 0
 |t+1,u=>sm (fun w=>if tb (rd l w) u=true then cnt n l v t w else 0) n
theorem wr_wr (a b:Int):wrap64 (wrap64 a+b)=wrap64 (a+b):=by unfold wrap64;omega
theorem addOnes (c:Int) (x:Nat) (d:Nat):∀(m:Nat) (a:List Int) (u:Int),m+d≤a.length→0≤u→u<a.length→rd (addAll c a (onesFrom x d m)) u=if(m≤u∧u<m+d)∧x.testBit u.toNat=true then wrap64 (rd a u+c)else rd a u:=by
 induction d with
 |zero=>
  intro m a u _ _ _
  simp only[onesFrom,addAll]
  rw[if_neg (by omega)]
 |succ d ih=>
  intro m a u hm u0 u1
  simp only[onesFrom]
  by_cases hb:x.testBit m=true
  ·rw[if_pos hb]
   simp only[addAll]
   rw[ih (m+1) _ u (by simp;omega) u0 (by simpa using u1)]
   have e:=rd_set (l:=a) (i:=(m:Int)) (j:=u) (wrap64 (rd a m+c)) (by omega) (by omega) u0
   rw[Int.toNat_natCast]at e
   rw[Int.toNat_natCast,e]
   by_cases z:u=m
   ·subst z
    rw[if_pos rfl,if_neg (by omega),if_pos ⟨by omega,by rw[Int.toNat_natCast];exact hb⟩]
   ·rw[if_neg z]
    by_cases q:(((m+1:Nat):Int)≤u∧u<((m+1:Nat):Int)+d)∧x.testBit u.toNat=true
    ·rw[if_pos q,if_pos ⟨by omega,q.2⟩]
    ·rw[if_neg q,if_neg fun y=>q ⟨by omega,y.2⟩]
  ·rw[if_neg hb,ih (m+1) a u (by omega) u0 u1]
   by_cases q:(((m+1:Nat):Int)≤u∧u<((m+1:Nat):Int)+d)∧x.testBit u.toNat=true
   ·rw[if_pos q,if_pos ⟨by omega,q.2⟩]
   ·rw[if_neg q,if_neg fun y=>q ⟨by
     by_cases z:u=m
     ·subst z
      rw[Int.toNat_natCast]at y
      exact absurd y.2 hb
     ·omega,y.2⟩]
def smFrom (f:Int→Int):Nat→Nat→Int
 |0,_=>0
 |d+1,v=>f v+smFrom f d (v+1)
theorem smFrom_sm (f:Int→Int) (d:Nat):∀v,sm f v+smFrom f d v=sm f (v+d):=by
 induction d with
 |zero=>intro v;simp[smFrom]
 |succ d ih=>
  intro v
  have:=ih (v+1)
  rw[show v+(d+1)=v+1+d by omega,← this]
  simp only[smFrom,sm]
  omega
theorem next_rd {n:Int} {l:List Int} (h:rows n l) (cur:List Int) (d:Nat):∀(v:Nat) (a:List Int) (u:Int),(v:Int)+d≤n→(a.length:Int)=n→0≤u→u<n→wrap64 (rd a u)=rd a u→rd (nextFrom l cur d v a) u=wrap64 (rd a u+smFrom (fun w=>if tb (rd l w) u=true then rd cur w else 0) d v):=by
 induction d with
 |zero=>
  intro v a u _ _ _ _ hw
  simp only[nextFrom,smFrom,Int.add_zero,hw]
 |succ d ih=>
  intro v a u hv ha u0 u1 hw
  obtain⟨x,e,hx,_⟩:=h.nat (v:=(v:Int)) (by omega) (by omega)
  have eo:=ones_to (n:=n) (x:=rd l v) (by omega) h.2.1 (h.2.2.2 v (by omega) (by omega)).1 (h.2.2.2 v (by omega) (by omega)).2
  have key:rd (addAll (rd cur v) a (ones (rd l v))) u=if tb (rd l v) u=true then wrap64 (rd a u+rd cur v)else rd a u:=by
   rw[eo,e,Int.toNat_natCast,addOnes (rd cur v) x n.toNat 0 a u (by omega) u0 (by omega)]
   have et:tb (x:Int) u=x.testBit u.toNat:=by rw[tb_toNat (by omega) u0,Int.toNat_natCast]
   rw[et]
   by_cases z:x.testBit u.toNat=true
   ·rw[if_pos z,if_pos ⟨by omega,z⟩]
   ·rw[if_neg z,if_neg fun q=>z q.2]
  simp only[nextFrom,smFrom]
  have hw2:wrap64 (rd (addAll (rd cur v) a (ones (rd l v))) u)=rd (addAll (rd cur v) a (ones (rd l v))) u:=by
   rw[key]
   split
   ·have:=wr_wr (rd a u+rd cur v) 0
    simpa using this
   ·exact hw
  rw[ih (v+1) _ u (by omega) (by rw[addAll_length];exact ha) u0 u1 hw2,key]
  by_cases z:tb (rd l v) u=true
  ·rw[if_pos z,if_pos z,wr_wr]
   congr 1
   omega
  ·rw[if_neg z,if_neg z]
   congr 1
   omega
theorem sm_wrap (f g:Int→Int) (m:Nat) (h:∀i:Int,0≤i→i<m→f i=wrap64 (g i)):wrap64 (sm f m)=wrap64 (sm g m):=by
 induction m with
 |zero=>rfl
 |succ m ih=>
  simp only[sm]
  have a:=ih fun i i0 i1=>h i i0 (by omega)
  have b:=h m (by omega) (by omega)
  rw[b]
  unfold wrap64 at *
  omega
theorem steps_rd {n:Int} {l:List Int} (h:rows n l) (v:Int) (t:Nat):∀(s:Nat) (a:List Int),(a.length:Int)=n→(∀u:Int,0≤u→u<n→rd a u=wrap64 (cnt n.toNat l v s u))→∀u:Int,0≤u→u<n→rd (steps l n t a) u=wrap64 (cnt n.toNat l v (s+t) u):=by
 have n1:=h.1
 induction t with
 |zero=>intro s a _ ha u u0 u1;exact ha u u0 u1
 |succ t ih=>
  intro s a hl ha u u0 u1
  simp only[steps]
  rw[show s+(t+1)=s+1+t by omega]
  refine ih (s+1) _ (by rw[nextFrom_length];simp;omega) (fun u u0 u1=>?_) u u0 u1
  have hz:rd (List.replicate n.toNat (0:Int)) u=0:=by
   have:u.toNat<n.toNat:=by omega
   simp[rd,List.getD_eq_getElem?_getD,this]
  rw[next_rd h a n.toNat 0 (List.replicate n.toNat 0) u (by omega) (by simp;omega) u0 u1 (by rw[hz];exact w64 (by decide) (by decide)),hz]
  have e:=smFrom_sm (fun w=>if tb (rd l w) u=true then rd a w else 0) n.toNat 0
  simp only[sm,Int.zero_add,Nat.zero_add]at e
  rw[Int.zero_add,e]
  show _=wrap64 (sm (fun w=>if tb (rd l w) u=true then cnt n.toNat l v s w else 0) n.toNat)
  refine sm_wrap _ _ _ fun w w0 w1=>?_
  rw[ha w w0 (by omega)]
  split
  ·rfl
  ·exact(w64 (by decide) (by decide)).symm
theorem walksN_cnt {n:Int} {l:List Int} (h:rows n l) {v u:Int} (v0:0≤v) (v1:v<n) (u0:0≤u) (u1:u<n) (t:Int):walksN n l v u t=wrap64 (cnt n.toNat l v t.toNat u):=by
 have n1:=h.1
 unfold walksN
 have:=steps_rd h v t.toNat 0 ((List.replicate n.toNat 0).set v.toNat 1) (by simp;omega) (fun u u0 u1=>?_) u u0 u1
 ·rwa [Nat.zero_add]at this
 ·rw[rd_set _ v0 (by simp;omega) u0]
  show _=wrap64 (if u=v then 1 else 0)
  by_cases z:u=v
  ·rw[if_pos z,if_pos z]
   exact(w64 (by decide) (by decide)).symm
  ·rw[if_neg z,if_neg z,w64 (a:=0) (by decide) (by decide)]
   have:u.toNat<n.toNat:=by omega
   simp[rd,List.getD_eq_getElem?_getD,this]
theorem code_one {n:Int} {l:List Int} (h:isG n l) {v:Int} (v0:0≤v) (v1:v<n):Ev (fun k=>Qbe.f k n l [v]) 0:=by
 unfold Qbe.f
 refine Ev.bind ((i_is n l).yes h) (ev_pos rfl (ev_k ?_))
 simp only[Qbe.l0]
 have e:rd [v] 0=v:=rfl
 have w:wrap64 ((0:Int)+1)=1:=w64 (by decide) (by decide)
 rw[e,w]
 refine ev_pos (by simp) (ev_pos (Int.le_refl 0) (ev_pos (by simp) (ev_neg (by omega) (ev_neg (by omega) (ev_k ?_)))))
 simp only[Qbe.l0]
 exact ev_neg (by simp) (Ev.now _)
theorem nbs_val {n:Int} {l:List Int} (h:isG n l) {v:Int} (v0:0≤v) (v1:v<n):Ev (fun k=>Qco.f k n l v) (ones (rd l v),0):=by
 have hr:=h.1.2.2.2 v v0 v1
 have hl:=h.1.2.2.1
 have hp:=two_pow_le (n:=n) (by omega) h.1.2.1
 unfold Qco.f
 exact Ev.bind (code_one h v0 v1) (ev_pos rfl (ev_pos v0 (ev_pos (by omega) (Ev.bind (i_list hr.1 (by omega)) (Ev.now _)))))
theorem closed_two {n:Int} {l:List Int} (h:isG n l) {v:Int} (v0:0≤v) (v1:v<n):walksN n l v v 2=(ones (rd l v)).length:=by
 have n2:=h.1.2.1
 have hr:=h.1.2.2.2 v v0 v1
 have e:cnt n.toNat l v 2 v=(ones (rd l v)).length:=by
  have a:=cn_sm (n:=n) (by omega) n2 hr.1 hr.2 [] 0
  have z0:∀u:Int,rd [] u=0:=fun u=>by simp[rd]
  rw[cn_all fun u _=>z0 u]at a
  rw[a]
  show sm (fun w=>if tb (rd l w) v=true then cnt n.toNat l v 1 w else 0) n.toNat=_
  refine sm_congr _ fun w w0 w1=>?_
  have c1:cnt n.toNat l v 1 w=if tb (rd l v) w=true then 1 else 0:=by
   show sm (fun x=>if tb (rd l x) w=true then(if x=v then 1 else 0)else 0) n.toNat=_
   rw[sm_congr n.toNat (g:=fun x=>if x=v then(if tb (rd l x) w=true then 1 else 0)else 0) fun x _ _=>by split<;>split<;>rfl]
   exact sm_one v (fun x=>if tb (rd l x) w=true then 1 else 0) n.toNat v0 (by omega)
  rw[c1,h.2.2 w v w0 (by omega) v0 v1,if_pos (z0 w)]
  by_cases y:tb (rd l v) w=true<;>simp[y]
 rw[walksN_cnt h.1 v0 v1 v0 v1 2]
 rw[show(2:Int).toNat=2 from rfl,e]
 have:=ones_length (rd l v)
 exact w64 (by omega) (by omega)
theorem lev_step {r K:List Int} {m i:Nat} (hK:K.length=m+1) (hv:∀j:Int,0≤j→j≤m→rd K j=sm (fun u=>if rd r u=j then 1 else 0) i) (x0:0≤rd r (i:Int)) (x1:rd r (i:Int)≤m):∀j:Int,0≤j→j≤m→rd (K.set (rd r (i:Int)).toNat (rd K (rd r (i:Int))+1)) j=sm (fun u=>if rd r u=j then 1 else 0) (i+1):=by
 intro j j0 j1
 have hs:=rd_set (l:=K) (i:=rd r (i:Int)) (j:=j) (rd K (rd r (i:Int))+1) x0 (by omega) j0
 have hv':=hv j j0 j1
 have hm:sm (fun u=>if rd r u=j then 1 else 0) (i+1)=sm (fun u=>if rd r u=j then 1 else 0) i+(if rd r (i:Int)=j then 1 else 0):=rfl
 refine hs.trans (Eq.trans ?_ hm.symm)
 generalize sm (fun u=>if rd r u=j then 1 else 0) i=S at *
 by_cases z:j=rd r (i:Int)
 ·have a:(if j=rd r (i:Int)then rd K (rd r (i:Int))+1 else rd K j)=rd K (rd r (i:Int))+1:=if_pos z
  have c:(if rd r (i:Int)=j then(1:Int)else 0)=1:=if_pos z.symm
  have d:rd K (rd r (i:Int))=rd K j:=congrArg (rd K) z.symm
  omega
 ·have a:(if j=rd r (i:Int)then rd K (rd r (i:Int))+1 else rd K j)=rd K j:=if_neg z
  have c:(if rd r (i:Int)=j then(1:Int)else 0)=0:=if_neg fun q=>z q.symm
  omega
theorem levels_val {n:Int} {l:List Int} (h:isG n l) (hj:joinedG n l) {b c:List Int} (hb:IsB n l b) (hc:IsC n l c):Ev (fun k=>Qbu.f k n l 0) (kl n l (b.length+1),0):=by
 have n1:=h.1.1
 have n2:=h.1.2.1
 have hD:=hb.1
 have hdist:=dist_of n l 0 (by omega)
 have hlen:=hdist.len
 have low:∀u:Int,0≤u→u<n→0≤rd (dist n l 0) u∧rd (dist n l 0) u≤b.length:=fun u u0 u1=>by
  have a:=joined_all h hj (v:=0) (by omega) (by omega) u0 u1
  have d:=diam_le l n1 n2 (v:=0) (by omega) (by omega) u0 u1
  omega
 have hD2:(b.length:Int)≤62:=by
  obtain⟨v,u,⟨hv,hu⟩,e⟩:=diam_at l n1 n2
  have:=(dist_of n l v (by omega)).small u hu.1 hu.2
  omega
 obtain⟨m,hm,hmax⟩:=r_max (dist n l 0) (by omega) (by omega)
 have em:m=b.length:=by
  obtain⟨u,hu,e⟩:=far0 h hb b.length (Int.le_refl _)
  have a:=hmax.1 u hu.1 (by omega)
  obtain⟨u',u0',u1',e'⟩:=hmax.2
  have:=(low u' u0' (by omega)).2
  omega
 subst em
 have loop:∀(d i:Nat) (K:List Int),(n:Int)-i=d→K.length=b.length+1→(∀j:Int,0≤j→j≤b.length→rd K j=sm (fun u=>if rd (dist n l 0) u=j then 1 else 0) i)→Ev (fun k=>Qbu.l0 k K (dist n l 0) ((dist n l 0).length:Int) i) (kl n l (b.length+1),0):=by
  intro d
  induction d with
  |zero=>
   intro i K hd hK hv
   have:K=kl n l (b.length+1):=rd_ext (by rw[kl_len];exact hK) fun j j0 j1=>by
    rw[hv j j0 (by omega),kl_at _ j0 (by omega)]
    unfold kc
    rw[show i=n.toNat by omega]
   refine ev_k ?_
   simp only[Qbu.l0]
   rw[this]
   exact ev_neg (by omega) (Ev.now _)
  |succ d ih=>
   intro i K hd hK hv
   obtain⟨x0,x1⟩:=low i (by omega) (by omega)
   have f1:(i:Int)<((dist n l 0).length:Int):=by omega
   have f2:(0:Int)≤i:=by omega
   have f3:rd (dist n l 0) (i:Int)<(K.length:Int):=by omega
   have pos:∀j:Int,0≤j→j≤b.length→0≤rd K j∧rd K j≤i:=fun j j0 j1=>by
    rw[hv j j0 j1]
    refine⟨sm_low _ (fun u=>by split<;>decide) i,?_⟩
    have:∀m:Nat,sm (fun u=>if rd (dist n l 0) u=j then 1 else 0) m≤m:=by
     intro m
     induction m with
     |zero=>exact Int.le_refl 0
     |succ m ihm=>
      simp only[sm]
      split<;>omega
    exact this i
   have p:=pos _ x0 x1
   have e1:wrap64 (rd K (rd (dist n l 0) i)+1)=rd K (rd (dist n l 0) i)+1:=w64 (by omega) (by omega)
   have e2:wrap64 ((i:Int)+1)=((i+1:Nat):Int):=by rw[w64 (by omega) (by omega)];omega
   have nxt:=ih (i+1) (K.set (rd (dist n l 0) i).toNat (rd K (rd (dist n l 0) i)+1)) (by omega) (by simpa using hK) (lev_step hK hv x0 x1)
   refine ev_k ?_
   simp only[Qbu.l0]
   rw[e1,e2]
   exact ev_pos f1 (ev_pos f2 (ev_pos f1 (ev_pos x0 (ev_pos x0 (ev_pos f3 nxt)))))
 have ew:wrap64 ((b.length:Int)+1)=((b.length+1:Nat):Int):=by rw[w64 (by omega) (by omega)];omega
 unfold Qbu.f
 refine Ev.bind (code_one h (Int.le_refl 0) (by omega)) (ev_pos rfl (Ev.bind (i_distances h.1 (Int.le_refl 0) (by omega) hdist) (Ev.bind hm ?_)))
 rw[ew]
 refine ev_pos (by omega) (ev_pos (by omega) (loop n.toNat 0 _ (by omega) (by simp) fun j j0 j1=>?_))
 have:j.toNat<b.length+1:=by omega
 simp only[sm]
 simp[rd,List.getD_eq_getElem?_getD,this]
theorem u_wrap (x:Int):0≤IntKind.u64.wrap x∧IntKind.u64.wrap x<18446744073709551616:=by
 simp[IntKind.wrap,IntKind.bits,IntKind.signed]
 omega
def Codes (l:List Int):Prop:=l.length≤4096∧∀x ∈ l,0≤x∧x<256
theorem code_at {l:List Int} (h:Codes l) (i:Int):0≤rd l i∧rd l i<256:=by
 by_cases hi:i.toNat<l.length
 ·have:rd l i=l[i.toNat]:=by simp[rd,List.getD_eq_getElem?_getD,List.getElem?_eq_getElem hi]
  rw[this]
  exact h.2 _ (List.getElem_mem _)
 ·have:rd l i=0:=by simp[rd,List.getD_eq_getElem?_getD,List.getElem?_eq_none (Nat.le_of_not_lt hi)]
  omega
def At (l:List Int) (a:Int):Prop:=0≤a∧a≤l.length
theorem mask_in (x:Int):0≤bits .and .u64 (IntKind.u64.wrap x/8589934592) 16777215∧bits .and .u64 (IntKind.u64.wrap x/8589934592) 16777215≤16777215:=by
 obtain⟨a,b⟩:=u_wrap x
 obtain⟨y,hy⟩:∃y:Nat,IntKind.u64.wrap x/8589934592=(y:Int):=⟨(IntKind.u64.wrap x/8589934592).toNat,by omega⟩
 rw[hy]
 have:=uand_nat y 16777215 (by omega) (by decide)
 rw[show((16777215:Nat):Int)=16777215 from rfl]at this
 rw[this]
 have h2:y &&& 16777215≤16777215:=Nat.and_le_right
 omega
theorem next_in {l:List Int} (hl:Codes l) {a:Int} (ha:At l a) (h n:Int) (n1:n<9223372036854775808):∃x a' h',Qaa.f l a h n=some (x,a',h')∧At l a'∧0≤x∧(1≤n→x<n)∧(n<1→x=0):=by
 unfold Qaa.f
 have hlen:=hl.1
 obtain⟨m0,m1⟩:=mask_in (IntKind.u64.wrap (h*6364136223846793005)+1442695040888963407)
 by_cases hn:n<1
 ·rw[if_pos hn]
  exact⟨0,a,h,rfl,ha,by omega,by omega,fun _=>rfl⟩
 rw[if_neg hn]
 have key:∀y:Int,0≤y→0≤Int.tmod y n∧Int.tmod y n<n:=fun y hy=>by
  rw[Int.tmod_eq_emod_of_nonneg hy]
  exact⟨Int.emod_nonneg _ (by omega),Int.emod_lt_of_pos _ (by omega)⟩
 by_cases h1:a<(l.length:Int)
 ·rw[if_pos h1,if_pos ha.1,if_neg (by omega)]
  obtain⟨r0,r1⟩:=code_at hl a
  rw[w64 (a:=bits .and .u64 _ _) (by omega) (by omega),w64 (a:=rd l a) (by omega) (by omega),w64 (a:=bits .and .u64 _ _+rd l a) (by omega) (by omega),w64 (a:=a+1) (by have:=ha.1;omega) (by omega)]
  obtain⟨k0,k1⟩:=key (bits .and .u64 (IntKind.u64.wrap (IntKind.u64.wrap (h*6364136223846793005)+1442695040888963407)/8589934592) 16777215+rd l a) (by omega)
  exact⟨_,_,_,rfl,⟨by have:=ha.1;omega,by omega⟩,k0,fun _=>k1,fun q=>absurd q hn⟩
 ·rw[if_neg h1,if_neg (by omega)]
  rw[w64 (a:=bits .and .u64 _ _) (by omega) (by omega)]
  obtain⟨k0,k1⟩:=key (bits .and .u64 (IntKind.u64.wrap (IntKind.u64.wrap (h*6364136223846793005)+1442695040888963407)/8589934592) 16777215) (by omega)
  exact⟨_,_,_,rfl,ha,k0,fun _=>k1,fun q=>absurd q hn⟩
theorem pick_in {l:List Int} (hl:Codes l) {a:Int} (ha:At l a) (h:Int) (xs:List Int) (x0:0<xs.length) (x1:xs.length≤1000):∃x a' h',Qbd.f l a h xs=some (x,a',h')∧At l a'∧x ∈ xs:=by
 obtain⟨i,a',h',e,ha',i0,i1,_⟩:=next_in hl ha h (xs.length:Int) (by omega)
 have i1:=i1 (by omega)
 refine⟨rd xs i,a',h',?_,ha',?_⟩
 ·unfold Qbd.f
  rw[e]
  simp only[Option.bind_some]
  rw[if_pos i0,if_pos i1]
 ·have hi:i.toNat<xs.length:=by omega
  have:rd xs i=xs[i.toNat]:=by simp[rd,List.getD_eq_getElem?_getD,List.getElem?_eq_getElem hi]
  rw[this]
  exact List.getElem_mem _
theorem bytes_of {l:List Int} (h:∀x ∈ l,(Lit.int .u8 x).wf=true):∀x ∈ l,0≤x∧x<256:=fun x hx=>by
 have:=h x hx
 simp[Lit.wf,IntKind.min,IntKind.max,IntKind.signed,IntKind.bits]at this
 omega
theorem from_ev {l:List Int} (hl:Codes l):∃h,Ev (fun k=>Qbc.f k l) (l,0,h):=by
 have loop:∀(d:Nat) (i h:Int),0≤i→i+d=l.length→∃h',Ev (fun k=>Qbc.l0 k l i l 0 h) (l,(0:Int),h'):=by
  intro d
  induction d with
  |zero=>
   intro i h i0 hi
   refine⟨h,ev_k ?_⟩
   simp only[Qbc.l0]
   exact ev_neg (by omega) (Ev.now _)
  |succ d ih=>
   intro i h i0 hi
   have:=hl.1
   obtain⟨h',e⟩:=ih (i+1) (IntKind.u64.wrap (IntKind.u64.wrap (IntKind.u64.wrap (h*1099511628211)+IntKind.u64.wrap (rd l i))+157)) (by omega) (by omega)
   refine⟨h',ev_k ?_⟩
   simp only[Qbc.l0]
   rw[w64 (a:=i+1) (by omega) (by omega)]
   exact ev_pos (by omega) (ev_pos (by omega) (ev_pos i0 e))
 unfold Qbc.f
 exact loop l.length 0 _ (by omega) (by omega)
theorem put_in (n:Int) {r:List Int} {v w:Int} (v0:0≤v) (v1:v<r.length) (w0:0≤w) (w1:w<r.length) (hl:r.length≤62):∃r',Qak.f n r v w=some r'∧r'.length=r.length:=by
 unfold Qak.f
 rw[if_pos v0,if_pos v1,wu64 w0 (by omega),if_pos w0]
 simp only[Option.bind_some]
 rw[if_pos w0,if_pos w1,wu64 v0 (by omega),if_pos v0]
 exact⟨_,rfl,by simp⟩
theorem drawof_in {l:List Int} (hl:Codes l) {n:Int} (n1:1≤n) (n2:n≤62) {a:Int} (ha:At l a) (h:Int):∃r a' h',(r.length:Int)=n∧At l a'∧Ev (fun k=>Qaz.f k l a h n) (n,r,a',h'):=by
 obtain⟨few,a1,h1,e1,ha1,_⟩:=pick_in hl ha h [1,2,3,4,n] (by simp) (by simp)
 have outer:∀(d:Nat) (v:Int) (r:List Int) (a h:Int),0≤v→v≤n→n-v=d→(r.length:Int)=n→At l a→∃r' a' h',(r'.length:Int)=n∧At l a'∧Ev (fun k=>Qaz.l0 k n few v l a h n r) (n,r',a',h'):=by
  intro d
  induction d with
  |zero=>
   intro v r a h v0 v1 hd hr ha
   refine⟨r,a,h,hr,ha,ev_k ?_⟩
   simp only[Qaz.l0]
   exact ev_neg (by omega) (Ev.now _)
  |succ d ih=>
   intro v r a h v0 v1 hd hr ha
   have inner:∀(e:Nat) (w:Int) (r:List Int) (a h:Int),0≤w→w≤v→v-w=e→(r.length:Int)=n→At l a→∃r' a' h',(r'.length:Int)=n∧At l a'∧Ev (fun k=>Qaz.l1 k n few v w l a h n r) (n,r',a',h'):=by
    intro e
    induction e with
    |zero=>
     intro w r a h w0 w1 he hr ha
     obtain⟨r',a',h',hr',ha',hE⟩:=ih (v+1) r a h (by omega) (by omega) (by omega) hr ha
     refine⟨r',a',h',hr',ha',ev_k ?_⟩
     simp only[Qaz.l1]
     rw[w64 (a:=v+1) (by omega) (by omega)]
     exact ev_neg (by omega) hE
    |succ e ihe=>
     intro w r a h w0 w1 he hr ha
     obtain⟨x,a2,h2,e2,ha2,_⟩:=next_in hl ha h n (by omega)
     by_cases z:x<few
     ·obtain⟨p,hp,hpl⟩:=put_in n (r:=r) v0 (by omega) w0 (by omega) (by omega)
      obtain⟨r',a',h',hr',ha',hE⟩:=ihe (w+1) p a2 h2 (by omega) (by omega) (by omega) (by omega) ha2
      refine⟨r',a',h',hr',ha',ev_k ?_⟩
      simp only[Qaz.l1]
      rw[w64 (a:=w+1) (by omega) (by omega)]
      exact ev_pos (by omega) (ev_bind0 e2 (ev_pos z (ev_bind0 hp hE)))
     ·obtain⟨r',a',h',hr',ha',hE⟩:=ihe (w+1) r a2 h2 (by omega) (by omega) (by omega) (by omega) ha2
      refine⟨r',a',h',hr',ha',ev_k ?_⟩
      simp only[Qaz.l1]
      rw[w64 (a:=w+1) (by omega) (by omega)]
      exact ev_pos (by omega) (ev_bind0 e2 (ev_neg z hE))
   obtain⟨r',a',h',hr',ha',hE⟩:=inner v.toNat 0 r a h (by omega) (by omega) (by omega) hr ha
   refine⟨r',a',h',hr',ha',ev_k ?_⟩
   simp only[Qaz.l0]
   exact ev_pos (by omega) hE
 obtain⟨r',a',h',hr',ha',hE⟩:=outer n.toNat 0 (List.replicate n.toNat 0) a1 h1 (by omega) (by omega) (by omega) (by simp;omega) ha1
 refine⟨r',a',h',hr',ha',?_⟩
 unfold Qaz.f Qam.f
 rw[if_pos (by omega),if_pos (by omega)]
 simp only[Option.bind_some]
 exact ev_bind0 e1 hE
theorem le_refl {α:Type} (a:Option α):LeO a a:=fun _ h=>h
theorem le_none {α:Type} (b:Option α):LeO Option.none b:=fun _ h=>by cases h
theorem le_ite {α:Type} {c:Prop} [Decidable c] {a a' b b':Option α} (h:LeO a a') (k:LeO b b'):LeO (if c then a else b) (if c then a' else b'):=by split<;>assumption
theorem le_bind {α β:Type} {a a':Option α} {f f':α→Option β} (h:LeO a a') (k:∀x,LeO (f x) (f' x)):LeO (a.bind f) (a'.bind f'):=by
 intro r hr
 obtain⟨x,hx,hf⟩:=Option.bind_eq_some_iff.1 hr
 rw[h x hx]
 exact k x r hf
theorem mono_jumps:∀k,∀y0 y1 y2 y3 y4,LeO (Qao.l0 k y0 y1 y2 y3 y4) (Qao.l0 (k+1) y0 y1 y2 y3 y4)
 |0=>fun _ _ _ _ _ r h=>by simp[Qao.l0]at h
 |k+1=>by
  have ih:=mono_jumps k
  intro y0 y1 y2 y3 y4
  unfold Qao.l0
  repeat' first|(with_reducible exact ih _ _ _ _ _)|(with_reducible exact le_refl _)|(with_reducible exact le_none _)|(with_reducible refine le_ite ?_ ?_)|(with_reducible refine le_bind ?_ (fun _=>?_))
theorem mono_comp:∀k,∀y0 y1 y2 y3 y4,LeO (Qal.l0 k y0 y1 y2 y3 y4) (Qal.l0 (k+1) y0 y1 y2 y3 y4)
 |0=>fun _ _ _ _ _ r h=>by simp[Qal.l0]at h
 |k+1=>by
  have ih:=mono_comp k
  intro y0 y1 y2 y3 y4
  unfold Qal.l0
  repeat' first|(with_reducible exact ih _ _ _ _ _)|(with_reducible exact le_refl _)|(with_reducible exact le_none _)|(with_reducible refine le_ite ?_ ?_)|(with_reducible refine le_bind ?_ (fun _=>?_))
theorem mono_beside:∀k,∀y0 y1 y2 y3 y4 y5 y6,LeO (Qav.l0 k y0 y1 y2 y3 y4 y5 y6) (Qav.l0 (k+1) y0 y1 y2 y3 y4 y5 y6)
 |0=>fun _ _ _ _ _ _ _ r h=>by simp[Qav.l0]at h
 |k+1=>by
  have ih:=mono_beside k
  intro y0 y1 y2 y3 y4 y5 y6
  unfold Qav.l0
  repeat' first|(with_reducible exact ih _ _ _ _ _ _ _)|(with_reducible exact le_refl _)|(with_reducible exact le_none _)|(with_reducible refine le_ite ?_ ?_)|(with_reducible refine le_bind ?_ (fun _=>?_))
theorem mono_named:∀k,(∀y0 y1 y2,LeO (Qae.j0 k y0 y1 y2) (Qae.j0 (k+1) y0 y1 y2))∧(∀y0,LeO (Qae.j1 k y0) (Qae.j1 (k+1) y0))∧(∀y0 y1 y2 y3,LeO (Qae.l0 k y0 y1 y2 y3) (Qae.l0 (k+1) y0 y1 y2 y3))∧(∀y0 y1 y2 y3 y4,LeO (Qae.l1 k y0 y1 y2 y3 y4) (Qae.l1 (k+1) y0 y1 y2 y3 y4))∧(∀y0 y1 y2,LeO (Qae.l2 k y0 y1 y2) (Qae.l2 (k+1) y0 y1 y2))∧(∀y0 y1 y2,LeO (Qae.l3 k y0 y1 y2) (Qae.l3 (k+1) y0 y1 y2))∧(∀y0 y1 y2,LeO (Qae.l4 k y0 y1 y2) (Qae.l4 (k+1) y0 y1 y2))∧(∀y0 y1 y2 y3,LeO (Qae.l5 k y0 y1 y2 y3) (Qae.l5 (k+1) y0 y1 y2 y3))∧(∀y0 y1 y2 y3 y4,LeO (Qae.l6 k y0 y1 y2 y3 y4) (Qae.l6 (k+1) y0 y1 y2 y3 y4))
 |0=>⟨fun _ _ _ r h=>by simp[Qae.j0]at h,fun _ r h=>by simp[Qae.j1]at h,fun _ _ _ _ r h=>by simp[Qae.l0]at h,fun _ _ _ _ _ r h=>by simp[Qae.l1]at h,fun _ _ _ r h=>by simp[Qae.l2]at h,fun _ _ _ r h=>by simp[Qae.l3]at h,fun _ _ _ r h=>by simp[Qae.l4]at h,fun _ _ _ _ r h=>by simp[Qae.l5]at h,fun _ _ _ _ _ r h=>by simp[Qae.l6]at h⟩
 |k+1=>by
  obtain⟨ih_j0,ih_j1,ih_l0,ih_l1,ih_l2,ih_l3,ih_l4,ih_l5,ih_l6⟩:=mono_named k
  refine⟨?_,?_,?_,?_,?_,?_,?_,?_,?_⟩
  ·intro y0 y1 y2
   unfold Qae.j0 Qao.f
   repeat' first|(with_reducible exact ih_j1 _)|(with_reducible exact ih_l2 _ _ _)|(with_reducible exact ih_l3 _ _ _)|(with_reducible exact ih_l4 _ _ _)|(with_reducible exact mono_jumps k _ _ _ _ _)|(with_reducible exact le_refl _)|(with_reducible exact le_none _)|(with_reducible refine le_ite ?_ ?_)|(with_reducible refine le_bind ?_ (fun _=>?_))
  ·intro y0
   unfold Qae.j1
   repeat' first|(with_reducible exact ih_l0 _ _ _ _)|(with_reducible exact le_refl _)|(with_reducible exact le_none _)|(with_reducible refine le_ite ?_ ?_)|(with_reducible refine le_bind ?_ (fun _=>?_))
  ·intro y0 y1 y2 y3
   unfold Qae.l0
   repeat' first|(with_reducible exact ih_l1 _ _ _ _ _)|(with_reducible exact le_refl _)|(with_reducible exact le_none _)|(with_reducible refine le_ite ?_ ?_)|(with_reducible refine le_bind ?_ (fun _=>?_))
  ·intro y0 y1 y2 y3 y4
   unfold Qae.l1
   repeat' first|(with_reducible exact ih_l1 _ _ _ _ _)|(with_reducible exact ih_l0 _ _ _ _)|(with_reducible exact le_refl _)|(with_reducible exact le_none _)|(with_reducible refine le_ite ?_ ?_)|(with_reducible refine le_bind ?_ (fun _=>?_))
  ·intro y0 y1 y2
   unfold Qae.l2
   repeat' first|(with_reducible exact ih_l2 _ _ _)|(with_reducible exact le_refl _)|(with_reducible exact le_none _)|(with_reducible refine le_ite ?_ ?_)|(with_reducible refine le_bind ?_ (fun _=>?_))
  ·intro y0 y1 y2
   unfold Qae.l3
   repeat' first|(with_reducible exact ih_l3 _ _ _)|(with_reducible exact le_refl _)|(with_reducible exact le_none _)|(with_reducible refine le_ite ?_ ?_)|(with_reducible refine le_bind ?_ (fun _=>?_))
  ·intro y0 y1 y2
   unfold Qae.l4
   repeat' first|(with_reducible exact ih_l5 _ _ _ _)|(with_reducible exact le_refl _)|(with_reducible exact le_none _)|(with_reducible refine le_ite ?_ ?_)|(with_reducible refine le_bind ?_ (fun _=>?_))
  ·intro y0 y1 y2 y3
   unfold Qae.l5
   repeat' first|(with_reducible exact ih_l6 _ _ _ _ _)|(with_reducible exact ih_l4 _ _ _)|(with_reducible exact le_refl _)|(with_reducible exact le_none _)|(with_reducible refine le_ite ?_ ?_)|(with_reducible refine le_bind ?_ (fun _=>?_))
  ·intro y0 y1 y2 y3 y4
   unfold Qae.l6
   repeat' first|(with_reducible exact ih_l6 _ _ _ _ _)|(with_reducible exact ih_l5 _ _ _ _)|(with_reducible exact le_refl _)|(with_reducible exact le_none _)|(with_reducible refine le_ite ?_ ?_)|(with_reducible refine le_bind ?_ (fun _=>?_))
theorem named_mono (b:ByteArray):∀k,LeO (Qae.f k b) (Qae.f (k+1) b):=by
 intro k
 unfold Qae.f Qal.f Qav.f
 repeat' first|(with_reducible exact mono_comp k _ _ _ _ _)|(with_reducible exact mono_beside k _ _ _ _ _ _ _)|(with_reducible exact(mono_named k).1 _ _ _)|(with_reducible exact le_refl _)|(with_reducible exact le_none _)|(with_reducible refine le_ite ?_ ?_)|(with_reducible refine le_bind ?_ (fun _=>?_))
def namedOk (b:ByteArray):Bool:=match Qae.f 400 b with
 |some q=>decide (1≤q.1)&&decide (q.1≤62)&&decide ((q.2.1.length:Int)=q.1)
 |none=>false
def namesOk:Bool:=match Qcq.f with
 |some L=>L.all namedOk&&decide (L.length=15)
 |none=>false
set_option maxRecDepth 1000000
theorem names_ok:namesOk=true:=by decide +kernel
theorem names_in:∃L:List ByteArray,Qcq.f=some L∧L.length=15∧∀i:Int,0≤i→i<15→∃n r b,(1≤n∧n≤62)∧(r.length:Int)=n∧Ev (fun k=>Qae.f k (rdOf ByteArray.empty L i)) (n,r,b):=by
 have h:=names_ok
 unfold namesOk at h
 split at h
 ·rename_i L e
  rw[Bool.and_eq_true,decide_eq_true_eq]at h
  refine⟨L,e,h.2,fun i i0 i1=>?_⟩
  have hi:i.toNat<L.length:=by omega
  have hm:rdOf ByteArray.empty L i ∈ L:=by
   have:rdOf ByteArray.empty L i=L[i.toNat]:=by simp[rdOf,List.getD_eq_getElem?_getD,List.getElem?_eq_getElem hi]
   rw[this]
   exact List.getElem_mem _
  have ok:=List.all_eq_true.1 h.1 _ hm
  unfold namedOk at ok
  split at ok
  ·rename_i q eq
   simp only[Bool.and_eq_true,decide_eq_true_eq]at ok
   exact⟨q.1,q.2.1,q.2.2,ok.1,ok.2,Ev.of (named_mono _) eq⟩
  ·cases ok
 ·cases h
theorem own_self {r:List Int} (h:r.length≤1048576):Qbr.f r=some r:=by
 unfold Qbr.f
 simp only[Option.bind_some,List.nil_append]
 rw[if_pos (by simp;omega)]
theorem empty_some {n:Int} (n0:0≤n) (n2:n≤62):Qam.f n=some (n,List.replicate n.toNat 0):=by
 unfold Qam.f
 rw[if_pos n0,if_pos (by omega)]
theorem rd_in {p:List Int} {P:Int→Prop} (h:∀x ∈ p,P x) {i:Int} (i0:0≤i) (i1:i<p.length):P (rd p i):=by
 have hi:i.toNat<p.length:=by omega
 have:rd p i=p[i.toNat]:=by simp[rd,List.getD_eq_getElem?_getD,List.getElem?_eq_getElem hi]
 rw[this]
 exact h _ (List.getElem_mem _)
theorem tmod_in {a n:Int} (a0:0≤a) (n1:1≤n):0≤Int.tmod a n∧Int.tmod a n<n:=by
 rw[Int.tmod_eq_emod_of_nonneg a0]
 exact⟨Int.emod_nonneg _ (by omega),Int.emod_lt_of_pos _ (by omega)⟩
theorem jumps_in {n:Int} (n1:1≤n) (n2:n≤62) (js:List Int) (hj:∀x ∈ js,0≤x∧x≤1000) (hl:js.length≤1000):∃r,(r.length:Int)=n∧Ev (fun k=>Qao.f k n js) (n,r):=by
 have loop:∀(d:Nat) (i:Int) (r:List Int),0≤i→n-i=d→(r.length:Int)=n→∃r',(r'.length:Int)=n∧Ev (fun k=>Qao.l0 k n js i n r) (n,r'):=by
  intro d
  induction d with
  |zero=>
   intro i r i0 hd hr
   refine⟨r,hr,ev_k ?_⟩
   simp only[Qao.l0]
   exact ev_neg (by omega) (Ev.now _)
  |succ d ih=>
   intro i r i0 hd hr
   have t1:=tmod_in (a:=i+1) (n:=n) (by omega) n1
   obtain⟨p,hp,hpl⟩:=put_in n (r:=r) i0 (by omega) t1.1 (by omega) (by omega)
   have e1:wrap64 (i+1)=i+1:=w64 (by omega) (by omega)
   by_cases z:(js.length:Int)>0
   ·have t2:=tmod_in (a:=i) (n:=(js.length:Int)) i0 (by omega)
    have hx:=rd_in hj t2.1 t2.2
    have e2:wrap64 (i+rd js (Int.tmod i (js.length:Int)))=i+rd js (Int.tmod i (js.length:Int)):=w64 (by omega) (by omega)
    have t3:=tmod_in (a:=i+rd js (Int.tmod i (js.length:Int))) (n:=n) (by omega) n1
    obtain⟨p2,hp2,hpl2⟩:=put_in n (r:=p) i0 (by omega) t3.1 (by omega) (by omega)
    obtain⟨r',hr',hE⟩:=ih (i+1) p2 (by omega) (by omega) (by omega)
    refine⟨r',hr',ev_k ?_⟩
    simp only[Qao.l0]
    rw[e1,e2]
    exact ev_pos (by omega) (ev_neg (by omega) (ev_bind0 hp (ev_pos z (ev_neg (by omega) (ev_pos t2.1 (ev_pos t2.2 (ev_bind0 hp2 hE)))))))
   ·obtain⟨r',hr',hE⟩:=ih (i+1) p (by omega) (by omega) (by omega)
    refine⟨r',hr',ev_k ?_⟩
    simp only[Qao.l0]
    rw[e1]
    exact ev_pos (by omega) (ev_neg (by omega) (ev_bind0 hp (ev_neg z hE)))
 obtain⟨r,hr,hE⟩:=loop n.toNat 0 (List.replicate n.toNat 0) (by omega) (by omega) (by simp;omega)
 refine⟨r,hr,?_⟩
 unfold Qao.f
 exact ev_bind0 (empty_some (by omega) n2) hE
theorem order_in {l:List Int} (hl:Codes l) {n:Int} (n1:1≤n) (n2:n≤62) {a:Int} (ha:At l a) (h:Int):∃p a' h',(p.length:Int)=n∧(∀x ∈ p,0≤x∧x<n)∧At l a'∧Ev (fun k=>Qbp.f k l a h n) (p,a',h'):=by
 have loop:∀(d:Nat) (i:Int) (p:List Int) (a h:Int),0≤i→n-i=d→(p.length:Int)=i→(∀x ∈ p,0≤x∧x<n)→At l a→∃p' a' h',(p'.length:Int)=n∧(∀x ∈ p',0≤x∧x<n)∧At l a'∧Ev (fun k=>Qbp.l0 k n p i l a h) (p',a',h'):=by
  intro d
  induction d with
  |zero=>
   intro i p a h i0 hd hp hx ha
   refine⟨p,a,h,by omega,hx,ha,ev_k ?_⟩
   simp only[Qbp.l0]
   exact ev_neg (by omega) (Ev.now _)
  |succ d ih=>
   intro i p a h i0 hd hp hx ha
   have e1:wrap64 (i+1)=i+1:=w64 (by omega) (by omega)
   obtain⟨x,a2,h2,e2,ha2,x0,x1,_⟩:=next_in hl ha h (i+1) (by omega)
   have x1:=x1 (by omega)
   have eo:Qbr.f (p.take x.toNat)=some (p.take x.toNat):=own_self (by rw[List.length_take];omega)
   obtain⟨p',a',h',hp',hx',ha',hE⟩:=ih (i+1) ((p.take x.toNat++[i])++p.drop x.toNat) a2 h2 (by omega) (by omega) (by simp;omega) (fun y hy=>by
    simp only[List.mem_append,List.mem_singleton]at hy
    rcases hy with(hy|rfl)|hy
    ·exact hx y (List.mem_of_mem_take hy)
    ·omega
    ·exact hx y (List.mem_of_mem_drop hy)) ha2
   refine⟨p',a',h',hp',hx',ha',ev_k ?_⟩
   simp only[Qbp.l0]
   rw[e1]
   refine ev_pos (by omega) (ev_bind0 e2 (ev_pos x0 (ev_pos (by omega) (ev_bind0 eo ?_))))
   simp only[Option.bind_some]
   exact ev_pos (by simp;omega) (ev_pos (by simp;omega) hE)
 obtain⟨p,a',h',hp,hx,ha',hE⟩:=loop n.toNat 0 [] a h (by omega) (by omega) (by simp) (by simp) ha
 refine⟨p,a',h',hp,hx,ha',?_⟩
 unfold Qbp.f
 exact hE
theorem renamed_in {n:Int} (n1:1≤n) (n2:n≤62) {r p:List Int} (hr:(r.length:Int)=n) (hp:(p.length:Int)=n) (hx:∀x ∈ p,0≤x∧x<n):∃r',(r'.length:Int)=n∧Ev (fun k=>Qat.f k n r p) (n,r'):=by
 have outer:∀(d:Nat) (v:Int) (q:List Int),0≤v→n-v=d→(q.length:Int)=n→∃r',(r'.length:Int)=n∧Ev (fun k=>Qat.l0 k p v n r n q) (n,r'):=by
  intro d
  induction d with
  |zero=>
   intro v q v0 hd hq
   refine⟨q,hq,ev_k ?_⟩
   simp only[Qat.l0]
   exact ev_neg (by omega) (Ev.now _)
  |succ d ih=>
   intro v q v0 hd hq
   have inner:∀(e:Nat) (w:Int) (q:List Int),0≤w→v-w=e→(q.length:Int)=n→∃r',(r'.length:Int)=n∧Ev (fun k=>Qat.l1 k p v w n r n q) (n,r'):=by
    intro e
    induction e with
    |zero=>
     intro w q w0 he hq
     obtain⟨r',hr',hE⟩:=ih (v+1) q (by omega) (by omega) hq
     refine⟨r',hr',ev_k ?_⟩
     simp only[Qat.l1]
     rw[w64 (a:=v+1) (by omega) (by omega)]
     exact ev_neg (by omega) hE
    |succ e ihe=>
     intro w q w0 he hq
     have hh:=s_has n r v w v0 (by omega) w0 (by omega)
     by_cases z:tb (rd r v) w=true
     ·have pv:=rd_in hx v0 (by omega)
      have pw:=rd_in hx w0 (by omega)
      obtain⟨q2,hq2,hql⟩:=put_in n (r:=q) pv.1 (by omega) pw.1 (by omega) (by omega)
      obtain⟨r',hr',hE⟩:=ihe (w+1) q2 (by omega) (by omega) (by omega)
      refine⟨r',hr',ev_k ?_⟩
      simp only[Qat.l1]
      rw[w64 (a:=w+1) (by omega) (by omega)]
      exact ev_pos (by omega) (ev_bind0 hh (ev_pos z (ev_pos v0 (ev_pos (by omega) (ev_pos w0 (ev_pos (by omega) (ev_bind0 hq2 hE)))))))
     ·obtain⟨r',hr',hE⟩:=ihe (w+1) q (by omega) (by omega) hq
      refine⟨r',hr',ev_k ?_⟩
      simp only[Qat.l1]
      rw[w64 (a:=w+1) (by omega) (by omega)]
      exact ev_pos (by omega) (ev_bind0 hh (ev_neg z hE))
   obtain⟨r',hr',hE⟩:=inner v.toNat 0 q (by omega) (by omega) hq
   refine⟨r',hr',ev_k ?_⟩
   simp only[Qat.l0]
   exact ev_pos (by omega) hE
 obtain⟨r',hr',hE⟩:=outer n.toNat 0 (List.replicate n.toNat 0) (by omega) (by omega) (by simp;omega)
 refine⟨r',hr',?_⟩
 unfold Qat.f
 exact ev_bind0 (empty_some (by omega) n2) hE
def DrawsG (l:List Int) (g:Nat→Option (Int × List Int × Int × Int)):Prop:=∃n r a h,(1≤n∧n≤62)∧(r.length:Int)=n∧At l a∧Ev g (n,r,a,h)
theorem turn_in {l:List Int} (hl:Codes l) {n:Int} (n1:1≤n) (n2:n≤62) {r:List Int} (hr:(r.length:Int)=n) {a:Int} (ha:At l a) (h:Int):DrawsG l (fun k=>Qas.j0 k l a h n r):=by
 obtain⟨x,a1,h1,e1,ha1,_⟩:=next_in hl ha h 2 (by omega)
 by_cases z:x=0
 ·obtain⟨p,a2,h2,hp,hx,ha2,hE⟩:=order_in hl n1 n2 ha1 h1
  obtain⟨r',hr',hE'⟩:=renamed_in n1 n2 hr hp hx
  refine⟨n,r',a2,h2,⟨n1,n2⟩,hr',ha2,ev_k ?_⟩
  simp only[Qas.j0]
  exact ev_bind0 e1 (ev_pos z (Ev.bind hE (Ev.bind hE' (Ev.now _))))
 ·refine⟨n,r,a1,h1,⟨n1,n2⟩,hr,ha1,ev_k ?_⟩
  simp only[Qas.j0]
  exact ev_bind0 e1 (ev_neg z (Ev.now _))
theorem regular_in {l:List Int} (hl:Codes l) {a:Int} (ha:At l a) (h:Int):DrawsG l (fun k=>Qas.f k l a h):=by
 obtain⟨L,eL,hL,hN⟩:=names_in
 obtain⟨y,a1,h1,e1,ha1,hy⟩:=pick_in hl ha h [6,13,15] (by simp) (by simp)
 simp only[List.mem_cons,List.not_mem_nil,or_false]at hy
 obtain⟨i,a2,h2,e2,ha2,i0,i1,_⟩:=next_in hl ha1 h1 y (by omega)
 have i1:=i1 (by omega)
 obtain⟨n,r,b,hn,hr,hE⟩:=hN i i0 (by omega)
 obtain⟨c,a3,h3,e3,ha3,_⟩:=next_in hl ha2 h2 3 (by omega)
 by_cases zc:c=0
 ·obtain⟨m,a4,h4,e4,ha4,m0,m1,_⟩:=next_in hl ha3 h3 14 (by omega)
  have m1:=m1 (by omega)
  obtain⟨r1,hr1,hE1⟩:=jumps_in (n:=3+m) (by omega) (by omega) [] (by simp) (by simp)
  obtain⟨q,a5,h5,e5,ha5,_⟩:=next_in hl ha4 h4 2 (by omega)
  have em:wrap64 (3+m)=3+m:=w64 (by omega) (by omega)
  have em1:wrap64 (3+m-1)=3+m-1:=w64 (by omega) (by omega)
  by_cases zq:q=0
  ·obtain⟨j,a6,h6,e6,ha6,j0,j1,_⟩:=next_in hl ha5 h5 (3+m-1) (by omega)
   have j1:=j1 (by omega)
   have ej:wrap64 (1+j)=1+j:=w64 (by omega) (by omega)
   obtain⟨r2,hr2,hE2⟩:=jumps_in (n:=3+m) (by omega) (by omega) [1+j] (by simp;omega) (by simp)
   obtain⟨n',r',a',h',hn',hr',ha',hE'⟩:=turn_in hl (n:=3+m) (by omega) (by omega) hr2 ha6 h6
   refine⟨n',r',a',h',hn',hr',ha',?_⟩
   unfold Qas.f
   rw[eL]
   simp only[Option.bind_some]
   refine ev_bind0 e1 (ev_bind0 e2 (ev_pos i0 (ev_pos (by omega) (Ev.bind hE (ev_bind0 e3 (ev_pos zc (ev_bind0 e4 ?_)))))))
   simp only[em,em1]
   refine Ev.bind hE1 (ev_bind0 e5 (ev_pos zq (ev_bind0 e6 ?_)))
   simp only[ej]
   exact Ev.bind hE2 hE'
  ·obtain⟨n',r',a',h',hn',hr',ha',hE'⟩:=turn_in hl (n:=3+m) (by omega) (by omega) hr1 ha5 h5
   refine⟨n',r',a',h',hn',hr',ha',?_⟩
   unfold Qas.f
   rw[eL]
   simp only[Option.bind_some]
   refine ev_bind0 e1 (ev_bind0 e2 (ev_pos i0 (ev_pos (by omega) (Ev.bind hE (ev_bind0 e3 (ev_pos zc (ev_bind0 e4 ?_)))))))
   simp only[em,em1]
   exact Ev.bind hE1 (ev_bind0 e5 (ev_neg zq hE'))
 ·obtain⟨n',r',a',h',hn',hr',ha',hE'⟩:=turn_in hl hn.1 hn.2 hr ha3 h3
  refine⟨n',r',a',h',hn',hr',ha',?_⟩
  unfold Qas.f
  rw[eL]
  simp only[Option.bind_some]
  exact ev_bind0 e1 (ev_bind0 e2 (ev_pos i0 (ev_pos (by omega) (Ev.bind hE (ev_bind0 e3 (ev_neg zc hE'))))))
theorem drawG_in {l:List Int} (hl:Codes l) {a:Int} (ha:At l a) (h:Int):DrawsG l (fun k=>Qcu.f k l a h):=by
 obtain⟨x,a1,h1,e1,ha1,_⟩:=next_in hl ha h 4 (by omega)
 by_cases z0:x=0
 ·obtain⟨n,r,a',h',hn,hr,ha',hE⟩:=regular_in hl ha1 h1
  refine⟨n,r,a',h',hn,hr,ha',?_⟩
  unfold Qcu.f
  exact ev_bind0 e1 (ev_pos z0 (Ev.bind hE (Ev.now _)))
 by_cases z1:x=1
 ·obtain⟨n,a2,h2,e2,ha2,hn⟩:=pick_in hl ha1 h1 [1,10,20,40,61,62] (by simp) (by simp)
  simp only[List.mem_cons,List.not_mem_nil,or_false]at hn
  obtain⟨r,a',h',hr,ha',hE⟩:=drawof_in hl (n:=n) (by omega) (by omega) ha2 h2
  refine⟨n,r,a',h',by omega,hr,ha',?_⟩
  unfold Qcu.f
  exact ev_bind0 e1 (ev_neg z0 (ev_pos z1 (ev_bind0 e2 (Ev.bind hE (Ev.now _)))))
 ·obtain⟨y,a2,h2,e2,ha2,y0,y1,_⟩:=next_in hl ha1 h1 14 (by omega)
  have y1:=y1 (by omega)
  obtain⟨r,a',h',hr,ha',hE⟩:=drawof_in hl (n:=1+y) (by omega) (by omega) ha2 h2
  refine⟨1+y,r,a',h',by omega,hr,ha',?_⟩
  unfold Qcu.f
  refine ev_bind0 e1 (ev_neg z0 (ev_neg z1 (ev_bind0 e2 ?_)))
  simp only[w64 (a:=1+y) (by omega) (by omega)]
  exact Ev.bind hE (Ev.now _)
theorem bad_in {l:List Int} (hl:Codes l) {a:Int} (ha:At l a) (h:Int) {n:Int} (n1:1≤n) (n2:n≤62) {r:List Int} (hr:(r.length:Int)=n):∃n' r' a' h',r'.length≤63∧At l a'∧Qcd.f l a h n r=some (n',r',a',h'):=by
 unfold Qcd.f
 rw[own_self (r:=r) (by omega)]
 simp only[Option.bind_some]
 obtain⟨x,a1,h1,e1,ha1,_⟩:=next_in hl ha h 50 (by omega)
 rw[e1]
 simp only[Option.bind_some]
 by_cases z0:x=0
 ·obtain⟨y,a2,h2,e2,ha2,_⟩:=pick_in hl ha1 h1 [0,63,-1,wrap64 (n+1)] (by simp) (by simp)
  rw[if_pos z0,e2]
  exact⟨_,_,_,_,by omega,ha2,rfl⟩
 rw[if_neg z0]
 by_cases z1:x=1
 ·obtain⟨y,a2,h2,e2,ha2,y0,y1,_⟩:=next_in hl ha1 h1 n (by omega)
  have y1:=y1 (by omega)
  obtain⟨c,a3,h3,e3,ha3,_⟩:=pick_in hl ha2 h2 [-1,1,2,4611686018427387904,shl .i64 1 (IntKind.u64.wrap n)] (by simp) (by simp)
  rw[if_pos z1,e2]
  simp only[Option.bind_some]
  rw[if_pos (by rw[wu64 (by omega) (by omega)];omega),e3]
  simp only[Option.bind_some]
  rw[if_pos y0,if_pos (by omega)]
  exact⟨_,_,_,_,by simp;omega,ha3,rfl⟩
 rw[if_neg z1]
 by_cases z2:x=2
 ·rw[if_pos z2,if_pos (by omega)]
  exact⟨_,_,_,_,by simp;omega,ha1,rfl⟩
 ·rw[if_neg z2]
  exact⟨_,_,_,_,by omega,ha1,rfl⟩
theorem spoil_in {l:List Int} (hl:Codes l) {a:Int} (ha:At l a) (h:Int):∃n r a' h',r.length≤63∧At l a'∧Ev (fun k=>Qcr.f k l a h) (n,r,a',h'):=by
 obtain⟨n,r,a1,h1,hn,hr,ha1,hE⟩:=drawG_in hl ha h
 obtain⟨n',r',a',h',hr',ha',e⟩:=bad_in hl ha1 h1 hn.1 hn.2 hr
 refine⟨n',r',a',h',hr',ha',?_⟩
 unfold Qcr.f
 exact Ev.bind hE (ev_bind0 e (Ev.now _))
theorem mono_sets:∀k,(∀y0 y1 y2 y3,LeO (Qbj.l0 k y0 y1 y2 y3) (Qbj.l0 (k+1) y0 y1 y2 y3))∧(∀y0 y1 y2 y3 y4 y5,LeO (Qbj.l1 k y0 y1 y2 y3 y4 y5) (Qbj.l1 (k+1) y0 y1 y2 y3 y4 y5))∧(∀y0 y1 y2,LeO (Qbj.f k y0 y1 y2) (Qbj.f (k+1) y0 y1 y2))
 |0=>⟨fun _ _ _ _ r h=>by simp[Qbj.l0]at h,fun _ _ _ _ _ _ r h=>by simp[Qbj.l1]at h,fun _ _ _ r h=>by simp[Qbj.f]at h⟩
 |k+1=>by
  obtain⟨ih_l0,ih_l1,ih_f⟩:=mono_sets k
  refine⟨?_,?_,?_⟩
  ·intro y0 y1 y2 y3
   unfold Qbj.l0
   repeat' first|(with_reducible exact ih_f _ _ _)|(with_reducible exact ih_l1 _ _ _ _ _ _)|(with_reducible exact le_refl _)|(with_reducible exact le_none _)|(with_reducible refine le_ite ?_ ?_)|(with_reducible refine le_bind ?_ (fun _=>?_))
  ·intro y0 y1 y2 y3 y4 y5
   unfold Qbj.l1
   repeat' first|(with_reducible exact ih_l1 _ _ _ _ _ _)|(with_reducible exact ih_l0 _ _ _ _)|(with_reducible exact le_refl _)|(with_reducible exact le_none _)|(with_reducible refine le_ite ?_ ?_)|(with_reducible refine le_bind ?_ (fun _=>?_))
  ·intro y0 y1 y2
   unfold Qbj.f
   repeat' first|(with_reducible exact ih_l0 _ _ _ _)|(with_reducible exact le_refl _)|(with_reducible exact le_none _)|(with_reducible refine le_ite ?_ ?_)|(with_reducible refine le_bind ?_ (fun _=>?_))
theorem mono_points:∀k,(∀y0 y1 y2,LeO (Qax.l0 k y0 y1 y2) (Qax.l0 (k+1) y0 y1 y2))∧(∀y0 y1 y2,LeO (Qax.l1 k y0 y1 y2) (Qax.l1 (k+1) y0 y1 y2))∧(∀y0 y1 y2 y3,LeO (Qax.l2 k y0 y1 y2 y3) (Qax.l2 (k+1) y0 y1 y2 y3))
 |0=>⟨fun _ _ _ r h=>by simp[Qax.l0]at h,fun _ _ _ r h=>by simp[Qax.l1]at h,fun _ _ _ _ r h=>by simp[Qax.l2]at h⟩
 |k+1=>by
  obtain⟨ih_l0,ih_l1,ih_l2⟩:=mono_points k
  refine⟨?_,?_,?_⟩
  ·intro y0 y1 y2
   unfold Qax.l0
   repeat' first|(with_reducible exact ih_l0 _ _ _)|(with_reducible exact ih_l1 _ _ _)|(with_reducible exact le_refl _)|(with_reducible exact le_none _)|(with_reducible refine le_ite ?_ ?_)|(with_reducible refine le_bind ?_ (fun _=>?_))
  ·intro y0 y1 y2
   unfold Qax.l1
   repeat' first|(with_reducible exact ih_l2 _ _ _ _)|(with_reducible exact le_refl _)|(with_reducible exact le_none _)|(with_reducible refine le_ite ?_ ?_)|(with_reducible refine le_bind ?_ (fun _=>?_))
  ·intro y0 y1 y2 y3
   unfold Qax.l2
   repeat' first|(with_reducible exact ih_l2 _ _ _ _)|(with_reducible exact ih_l1 _ _ _)|(with_reducible exact le_refl _)|(with_reducible exact le_none _)|(with_reducible refine le_ite ?_ ?_)|(with_reducible refine le_bind ?_ (fun _=>?_))
theorem mono_odd:∀k,(∀y0 y1 y2 y3,LeO (Qbo.l0 k y0 y1 y2 y3) (Qbo.l0 (k+1) y0 y1 y2 y3))∧(∀y0 y1 y2 y3 y4,LeO (Qbo.l1 k y0 y1 y2 y3 y4) (Qbo.l1 (k+1) y0 y1 y2 y3 y4))
 |0=>⟨fun _ _ _ _ r h=>by simp[Qbo.l0]at h,fun _ _ _ _ _ r h=>by simp[Qbo.l1]at h⟩
 |k+1=>by
  obtain⟨ih_l0,ih_l1⟩:=mono_odd k
  refine⟨?_,?_⟩
  ·intro y0 y1 y2 y3
   unfold Qbo.l0
   repeat' first|(with_reducible exact ih_l1 _ _ _ _ _)|(with_reducible exact le_refl _)|(with_reducible exact le_none _)|(with_reducible refine le_ite ?_ ?_)|(with_reducible refine le_bind ?_ (fun _=>?_))
  ·intro y0 y1 y2 y3 y4
   unfold Qbo.l1
   repeat' first|(with_reducible exact ih_l1 _ _ _ _ _)|(with_reducible exact ih_l0 _ _ _ _)|(with_reducible exact le_refl _)|(with_reducible exact le_none _)|(with_reducible refine le_ite ?_ ?_)|(with_reducible refine le_bind ?_ (fun _=>?_))
theorem mono_plane:∀k,(∀y0 y1 y2 y3 y4 y5,LeO (Qbf.l0 k y0 y1 y2 y3 y4 y5) (Qbf.l0 (k+1) y0 y1 y2 y3 y4 y5))∧(∀y0 y1 y2 y3 y4 y5 y6,LeO (Qbf.l1 k y0 y1 y2 y3 y4 y5 y6) (Qbf.l1 (k+1) y0 y1 y2 y3 y4 y5 y6))
 |0=>⟨fun _ _ _ _ _ _ r h=>by simp[Qbf.l0]at h,fun _ _ _ _ _ _ _ r h=>by simp[Qbf.l1]at h⟩
 |k+1=>by
  obtain⟨ih_l0,ih_l1⟩:=mono_plane k
  refine⟨?_,?_⟩
  ·intro y0 y1 y2 y3 y4 y5
   unfold Qbf.l0
   repeat' first|(with_reducible exact ih_l1 _ _ _ _ _ _ _)|(with_reducible exact le_refl _)|(with_reducible exact le_none _)|(with_reducible refine le_ite ?_ ?_)|(with_reducible refine le_bind ?_ (fun _=>?_))
  ·intro y0 y1 y2 y3 y4 y5 y6
   unfold Qbf.l1
   repeat' first|(with_reducible exact ih_l1 _ _ _ _ _ _ _)|(with_reducible exact ih_l0 _ _ _ _ _ _)|(with_reducible exact le_refl _)|(with_reducible exact le_none _)|(with_reducible refine le_ite ?_ ?_)|(with_reducible refine le_bind ?_ (fun _=>?_))
theorem odd_mono (a:Int):∀k,LeO (Qbo.f k a) (Qbo.f (k+1) a):=by
 intro k
 unfold Qbo.f
 repeat' first|(with_reducible exact(mono_sets k).2.2 _ _ _)|(with_reducible exact(mono_odd k).1 _ _ _ _)|(with_reducible exact le_refl _)|(with_reducible exact le_none _)|(with_reducible refine le_ite ?_ ?_)|(with_reducible refine le_bind ?_ (fun _=>?_))
theorem plane_mono (a:Int):∀k,LeO (Qbf.f k a) (Qbf.f (k+1) a):=by
 intro k
 unfold Qbf.f Qax.f
 repeat' first|(with_reducible exact(mono_points k).1 _ _ _)|(with_reducible exact(mono_plane k).1 _ _ _ _ _ _)|(with_reducible exact le_refl _)|(with_reducible exact le_none _)|(with_reducible refine le_ite ?_ ?_)|(with_reducible refine le_bind ?_ (fun _=>?_))
def okG (o:Option (Int × List Int × Int)):Bool:=match o with
 |some q=>decide (q.2.2=0)&&(decide (1≤q.1)&&decide (q.1≤62))&&decide ((q.2.1.length:Int)=q.1)
 |none=>false
set_option maxRecDepth 1000000
theorem odd_ok:[(2:Int),3].all (fun a=>okG (Qbo.f 1000 a))=true:=by decide +kernel
theorem plane_ok:okG (Qbf.f 1000 2)=true:=by decide +kernel
theorem okG_ev {g:Nat→Option (Int × List Int × Int)} (hm:∀k,LeO (g k) (g (k+1))) (h:okG (g 1000)=true):∃n r,(1≤n∧n≤62)∧(r.length:Int)=n∧Ev g (n,r,0):=by
 unfold okG at h
 split at h
 ·rename_i q e
  simp only[Bool.and_eq_true,decide_eq_true_eq]at h
  obtain⟨⟨h0,h1⟩,h2⟩:=h
  obtain⟨n,r,c⟩:=q
  have h0:c=0:=h0
  subst h0
  exact⟨n,r,h1,h2,Ev.of hm e⟩
 ·cases h
theorem draw6_in {l:List Int} (hl:Codes l) {a:Int} (ha:At l a) (h:Int):∃n r a' h',r.length≤63∧At l a'∧Ev (fun k=>Qcf.f k l a h) (n,r,a',h'):=by
 obtain⟨x,a1,h1,e1,ha1,_⟩:=next_in hl ha h 6 (by omega)
 by_cases z0:x=0
 ·obtain⟨n,r,a',h',hr,ha',hE⟩:=spoil_in hl ha1 h1
  refine⟨n,r,a',h',hr,ha',?_⟩
  unfold Qcf.f
  exact ev_bind0 e1 (ev_pos z0 (Ev.bind hE (Ev.now _)))
 by_cases z1:x=1
 ·obtain⟨y,a2,h2,e2,ha2,hy⟩:=pick_in hl ha1 h1 [2,3] (by simp) (by simp)
  obtain⟨n,r,hn,hr,hE⟩:=okG_ev (odd_mono y) (List.all_eq_true.1 odd_ok y hy)
  obtain⟨p,a3,h3,hp,hx,ha3,hE2⟩:=order_in hl hn.1 hn.2 ha2 h2
  obtain⟨r',hr',hE3⟩:=renamed_in hn.1 hn.2 hr hp hx
  refine⟨n,r',a3,h3,by omega,ha3,?_⟩
  unfold Qcf.f
  exact ev_bind0 e1 (ev_neg z0 (ev_pos z1 (ev_bind0 e2 (Ev.bind hE (ev_pos rfl (Ev.bind hE2 (Ev.bind hE3 (Ev.now _))))))))
 by_cases z2:x=2
 ·obtain⟨n,r,hn,hr,hE⟩:=okG_ev (plane_mono 2) plane_ok
  refine⟨n,r,a1,h1,by omega,ha1,?_⟩
  unfold Qcf.f
  exact ev_bind0 e1 (ev_neg z0 (ev_neg z1 (ev_pos z2 (Ev.bind hE (ev_pos rfl (Ev.now _))))))
 by_cases z3:x=3
 ·obtain⟨y,a2,h2,e2,ha2,y0,y1,_⟩:=next_in hl ha1 h1 8 (by omega)
  have y1:=y1 (by omega)
  obtain⟨r,a3,h3,hr,ha3,hE⟩:=drawof_in hl (n:=1+y) (by omega) (by omega) ha2 h2
  refine⟨1+y,r,a3,h3,by omega,ha3,?_⟩
  unfold Qcf.f Qcp.f
  refine ev_bind0 e1 (ev_neg z0 (ev_neg z1 (ev_neg z2 (ev_pos z3 (Ev.bind (a:=(1+y,r,a3,h3)) ?_ (Ev.now _))))))
  refine ev_bind0 e2 ?_
  simp only[w64 (a:=1+y) (by omega) (by omega)]
  exact Ev.bind hE (Ev.now _)
 ·obtain⟨n,r,a',h',hn,hr,ha',hE⟩:=regular_in hl ha1 h1
  refine⟨n,r,a',h',by omega,ha',?_⟩
  unfold Qcf.f
  exact ev_bind0 e1 (ev_neg z0 (ev_neg z1 (ev_neg z2 (ev_neg z3 (Ev.bind hE (Ev.now _))))))
theorem lists_l0 {l:List Int} (hl:Codes l) (d:Nat) (hd:d≤1000):∀(xs ys:List Int) (p q a h:Int),xs.length+d≤1000→ys.length+d≤1000→At l a→∃b c,Ev (fun k=>Qah.l0 k xs ys p q (d:Int) l a h) (b,c):=by
 induction d with
 |zero=>
  intro xs ys p q a h _ _ _
  refine⟨xs,ys,ev_k ?_⟩
  simp only[Qah.l0]
  exact ev_neg (by omega) (Ev.now _)
 |succ d ih=>
  intro xs ys p q a h hx hy ha
  obtain⟨x,a1,h1,e1,ha1,_⟩:=next_in hl ha h 3 (by omega)
  obtain⟨y,a2,h2,e2,ha2,_⟩:=next_in hl ha1 h1 20 (by omega)
  obtain⟨z,a3,h3,e3,ha3,_⟩:=next_in hl ha2 h2 2 (by omega)
  have ew:wrap64 (((d+1:Nat):Int)-1)=(d:Int):=by rw[w64 (by omega) (by omega)];omega
  obtain⟨b,c,hE⟩:=ih (by omega) (xs++[p]) (ys++[q]) (mx (wrap64 (p-x)) (wrap64 (1-wrap64 (Int.tdiv y 19)))) (wrap64 (q+z)) a3 h3 (by simp;omega) (by simp;omega) ha3
  refine⟨b,c,ev_k ?_⟩
  simp only[Qah.l0]
  rw[ew]
  exact ev_pos (by omega) (ev_pos (by omega) (ev_pos (by omega) (ev_bind0 e1 (ev_bind0 e2 (ev_bind0 e3 hE)))))
theorem lists_j2 {l:List Int} (hl:Codes l) {a:Int} (ha:At l a) (h:Int):∃b c,Ev (fun k=>Qah.j2 k l a h) (b,c):=by
 obtain⟨x,a1,h1,e1,ha1,_⟩:=next_in hl ha h 12 (by omega)
 obtain⟨y,a2,h2,e2,ha2,y0,y1,_⟩:=next_in hl ha1 h1 4 (by omega)
 obtain⟨z,a3,h3,e3,ha3,z0,z1,_⟩:=next_in hl ha2 h2 24 (by omega)
 have y1:=y1 (by omega)
 have z1:=z1 (by omega)
 have et:Int.tdiv z 23=z/23:=Int.tdiv_eq_ediv_of_nonneg z0
 have w1:wrap64 (z/23)=z/23:=w64 (by omega) (by omega)
 have w2:wrap64 (z/23*10)=z/23*10:=w64 (by omega) (by omega)
 have w3:wrap64 (1+y)=1+y:=w64 (by omega) (by omega)
 obtain⟨d,ed⟩:∃d:Nat,(d:Int)=1+y+z/23*10∧d≤100:=⟨(1+y+z/23*10).toNat,by omega,by omega⟩
 have w4:wrap64 (1+y+z/23*10)=(d:Int):=by rw[w64 (by omega) (by omega)];omega
 obtain⟨b,c,hE⟩:=lists_l0 hl d (by omega) [] [] (wrap64 (1+x)) 1 a3 h3 (by simp;omega) (by simp;omega) ha3
 refine⟨b,c,ev_k ?_⟩
 simp only[Qah.j2]
 refine ev_bind0 e1 (ev_bind0 e2 (ev_bind0 e3 ?_))
 simp only[et,w1,w2,w3,w4]
 exact hE
theorem lists_in {l:List Int} (hl:Codes l):∃b c,Ev (fun k=>Qcm.f k l) (b,c):=by
 obtain⟨h,e⟩:=from_ev hl
 obtain⟨n,r,a1,h1,_,ha1,hE⟩:=draw6_in hl (a:=0) ⟨by omega,by omega⟩ h
 obtain⟨c,hc,_,hcc⟩:=connCodes n r
 have no:∀a h,At l a→∃b c,Ev (fun k=>Qah.j0 k false l a h n r) (b,c):=fun a h ha=>by
  obtain⟨b,c,hE⟩:=lists_j2 hl ha h
  refine⟨b,c,ev_k ?_⟩
  simp only[Qah.j0]
  exact ev_neg (by simp) hE
 have j1no:∀(p q:List Int) a h,At l a→∃b c,Ev (fun k=>Qah.j1 k p q false l a h) (b,c):=fun p q a h ha=>by
  obtain⟨b,c,hE⟩:=lists_j2 hl ha h
  refine⟨b,c,ev_k ?_⟩
  simp only[Qah.j1]
  exact ev_neg (by simp) hE
 have all:∃b c,Ev (fun k=>Qah.f k l) (b,c):=by
  unfold Qah.f
  by_cases z:c=0
  ·obtain⟨hg,hj⟩:=hcc.1 z
   obtain⟨x,a2,h2,e2,ha2,_⟩:=next_in hl ha1 h1 2 (by omega)
   by_cases zx:x=0
   ·obtain⟨p,_,hp,hs⟩:=s_arrays hg hj
    by_cases y:p.2.2=true
    ·by_cases w:(p.1.length:Int)>0
     ·obtain⟨u,a3,h3,e3,ha3,_⟩:=next_in hl ha2 h2 3 (by omega)
      have fin:∃b c,Ev (fun k=>Qah.j1 k p.1 p.2.1 true l a2 h2) (b,c):=by
       by_cases zu:u=0
       ·obtain⟨i,a4,h4,e4,ha4,i0,i1,_⟩:=next_in hl ha3 h3 (p.1.length:Int) (by omega)
        have i1:=i1 (by omega)
        obtain⟨v,a5,h5,e5,ha5,_⟩:=next_in hl ha4 h4 3 (by omega)
        refine⟨p.1.set i.toNat (wrap64 (wrap64 (rd p.1 i+v)-1)),p.2.1,ev_k ?_⟩
        ·simp only[Qah.j1]
         exact ev_pos trivial (ev_bind0 e3 (ev_pos zu (ev_bind0 e4 (ev_pos i0 (ev_pos i1 (ev_bind0 e5 (Ev.now _)))))))
       ·refine⟨p.1,p.2.1,ev_k ?_⟩
        ·simp only[Qah.j1]
         exact ev_pos trivial (ev_bind0 e3 (ev_neg zu (Ev.now _)))
      obtain⟨b,c',hF⟩:=fin
      refine⟨b,c',Ev.bind e (Ev.bind hE (Ev.bind hc (ev_pos z (ev_bind0 e2 (ev_k ?_)))))⟩
      simp only[Qah.j0]
      refine ev_pos (by simp[zx]) (Ev.bind hs (ev_pos y ?_))
      rw[decide_eq_true w]
      exact hF
     ·obtain⟨b,c',hF⟩:=j1no p.1 p.2.1 a2 h2 ha2
      refine⟨b,c',Ev.bind e (Ev.bind hE (Ev.bind hc (ev_pos z (ev_bind0 e2 (ev_k ?_)))))⟩
      simp only[Qah.j0]
      refine ev_pos (by simp[zx]) (Ev.bind hs (ev_pos y ?_))
      rw[decide_eq_false w]
      exact hF
    ·obtain⟨b,c',hF⟩:=j1no p.1 p.2.1 a2 h2 ha2
     refine⟨b,c',Ev.bind e (Ev.bind hE (Ev.bind hc (ev_pos z (ev_bind0 e2 (ev_k ?_)))))⟩
     simp only[Qah.j0]
     exact ev_pos (by simp[zx]) (Ev.bind hs (ev_neg y hF))
   ·obtain⟨b,c',hF⟩:=no a2 h2 ha2
    refine⟨b,c',Ev.bind e (Ev.bind hE (Ev.bind hc (ev_pos z (ev_bind0 e2 ?_))))⟩
    have:(x==0)=false:=by simpa using zx
    simp only[this]
    exact hF
  ·obtain⟨b,c',hF⟩:=no a1 h1 ha1
   exact⟨b,c',Ev.bind e (Ev.bind hE (Ev.bind hc (ev_neg z hF)))⟩
 obtain⟨b,c',hF⟩:=all
 refine⟨b,c',?_⟩
 unfold Qcm.f
 exact Ev.bind hF (Ev.now _)
theorem arrays_in {l:List Int} (hl:Codes l):∃n r,Ev (fun k=>Qck.f k l) (n,r):=by
 obtain⟨h,e⟩:=from_ev hl
 obtain⟨n,r,a1,h1,_,ha1,hE⟩:=draw6_in hl (a:=0) ⟨by omega,by omega⟩ h
 refine⟨n,r,?_⟩
 unfold Qck.f
 exact Ev.bind e (Ev.bind hE (Ev.now _))
theorem near_in {l:List Int} (hl:Codes l) {a:Int} (ha:At l a) (h:Int):∃x a' h',Qcv.f l a h 8=some (x,a',h')∧At l a':=by
 obtain⟨x,a1,h1,e1,ha1,_⟩:=next_in hl ha h 14 (by omega)
 unfold Qcv.f
 rw[e1]
 simp only[Option.bind_some]
 by_cases z:x=0
 ·obtain⟨y,a2,h2,e2,ha2,_⟩:=pick_in hl ha1 h1 [-1,wrap64 (8+1),1099511627776,-4611686018427387904] (by simp) (by simp)
  rw[if_pos z,e2]
  exact⟨_,_,_,rfl,ha2⟩
 ·obtain⟨y,a2,h2,e2,ha2,_⟩:=next_in hl ha1 h1 (wrap64 (8+1)) (by rw[w64 (by decide) (by decide)];decide)
  rw[if_neg z,e2]
  exact⟨_,_,_,rfl,ha2⟩
theorem closed_in {l:List Int} (hl:Codes l):∃n r v t,Ev (fun k=>Qbi.f k l) (n,r,v,t):=by
 obtain⟨h,e⟩:=from_ev hl
 obtain⟨n,r,a1,h1,_,ha1,hE⟩:=draw6_in hl (a:=0) ⟨by omega,by omega⟩ h
 have hm:mn (mx n 1) 62<9223372036854775808:=by unfold mn mx;split<;>split<;>omega
 obtain⟨x,a2,h2,e2,ha2,_⟩:=next_in hl ha1 h1 (mn (mx n 1) 62) hm
 obtain⟨y,a3,h3,e3,ha3⟩:=near_in hl ha2 h2
 obtain⟨z,a4,h4,e4,ha4,_⟩:=pick_in hl ha3 h3 [0,2,3,4,5,6,y] (by simp) (by simp)
 refine⟨n,r,x,z,?_⟩
 unfold Qbi.f
 exact Ev.bind e (Ev.bind hE (ev_bind0 e2 (ev_bind0 e3 (ev_bind0 e4 (Ev.now _)))))
theorem like_self (r:List Int) (hr:r.length≤1048576):Ev (fun k=>Qbl.f k r r) true:=by
 have loop:∀(d:Nat) (i:Int),0≤i→i+d=r.length→Ev (fun k=>Qbl.l0 k r r i) true:=by
  intro d
  induction d with
  |zero=>
   intro i i0 hi
   refine ev_k ?_
   simp only[Qbl.l0]
   exact ev_neg (by omega) (Ev.now _)
  |succ d ih=>
   intro i i0 hi
   refine ev_k ?_
   simp only[Qbl.l0]
   rw[w64 (a:=i+1) (by omega) (by omega)]
   exact ev_pos (by omega) (ev_pos i0 (ev_pos (by omega) (ev_pos trivial (ih (i+1) (by omega) (by omega)))))
 unfold Qbl.f
 exact ev_pos rfl (loop r.length 0 (by omega) (by omega))
theorem dropcons' (l:List Int) (i:Int) (h0:0≤i) (h1:i<l.length):l.drop i.toNat=rd l i :: l.drop (i+1).toNat:=by
 rw[List.drop_eq_getElem_cons (by omega:i.toNat<l.length),show(i+1).toNat=i.toNat+1 by omega]
 simp[rd,List.getD_eq_getElem?_getD,List.getElem?_eq_getElem (show i.toNat<l.length by omega)]
theorem codes (n:Int) (l vs:List Int) (hl:vs.length<9223372036854775807):∃c,Ev (fun k=>Qce.f k n l vs) c∧Ev (fun k=>Qbe.f k n l vs) c∧(c=0↔isG n l∧∀x ∈ vs,0≤x∧x<n):=by
 by_cases hg:isG n l
 ·have n2:=hg.1.2.1
  have n1:=hg.1.1
  have loop:∀(d:Nat) (i:Int),0≤i→i≤vs.length→vs.length-i=d→∃c,Ev (fun k=>Qce.l0 k vs i n l) c∧Ev (fun k=>Qbe.l0 k vs vs.length i n l) c∧(c=0↔∀x ∈ vs.drop i.toNat,0≤x∧x<n):=by
   intro d
   induction d with
   |zero=>
    intro i i0 i1 hd
    refine⟨0,ev_k ?_,ev_k ?_,by rw[List.drop_of_length_le (by omega)];simp⟩
    ·simp only[Qce.l0]
     exact ev_neg (by omega) (Ev.now _)
    ·simp only[Qbe.l0]
     exact ev_neg (by omega) (Ev.now _)
   |succ d ih=>
    intro i i0 i1 hd
    obtain⟨c,hs,hi,hc⟩:=ih (i+1) (by omega) (by omega) (by omega)
    rw[dropcons' vs i i0 (by omega)]
    by_cases hv:0≤rd vs i∧rd vs i<n
    ·refine⟨c,ev_k ?_,ev_k ?_,hc.trans ?_⟩
     ·simp only[Qce.l0,s_in,Option.bind_some]
      rw[w64 (a:=n-1) (by omega) (by omega),w64 (a:=i+1) (by omega) (by omega)]
      exact ev_pos (by omega) (ev_pos i0 (ev_pos (decide_eq_true (by omega)) hs))
     ·simp only[Qbe.l0]
      rw[w64 (a:=i+1) (by omega) (by omega)]
      exact ev_pos (by omega) (ev_pos i0 (ev_pos (by omega) (ev_neg (by omega) (ev_neg (by omega) hi))))
     ·rw[List.forall_mem_cons]
      exact⟨fun z=>⟨hv,z⟩,fun z=>z.2⟩
    ·refine⟨2,ev_k ?_,ev_k ?_,?_⟩
     ·simp only[Qce.l0,s_in,Option.bind_some]
      rw[w64 (a:=n-1) (by omega) (by omega)]
      exact ev_pos (by omega) (ev_pos i0 (ev_neg (by simp;omega) (Ev.now _)))
     ·simp only[Qbe.l0]
      refine ev_pos (by omega) (ev_pos i0 (ev_pos (by omega) ?_))
      by_cases h:rd vs i<0
      ·exact ev_pos h (Ev.now _)
      ·exact ev_neg h (ev_pos (by omega) (Ev.now _))
     ·rw[List.forall_mem_cons]
      exact⟨fun z=>by omega,fun z=>absurd z.1 hv⟩
  obtain⟨c,hs,hi,hc⟩:=loop vs.length 0 (by omega) (by omega) (by omega)
  refine⟨c,?_,?_,by rw[hc];simp[hg]⟩
  ·unfold Qce.f
   exact Ev.bind ((s_is n l).yes hg) (ev_pos rfl hs)
  ·unfold Qbe.f
   exact Ev.bind ((i_is n l).yes hg) (ev_pos rfl hi)
 ·refine⟨1,?_,?_,by simp[hg]⟩
  ·unfold Qce.f
   exact Ev.bind ((s_is n l).no hg) (ev_neg (by decide) (Ev.now _))
  ·unfold Qbe.f
   exact Ev.bind ((i_is n l).no hg) (ev_neg (by decide) (Ev.now _))
end Go.Proofs.YtmofdldplbplbaaDoor.Q
namespace Go.Proofs.YtmofdldplbplbaaDoor.Pure
open Go Go.RowKit Go.Proofs.YtmofdldplbplbaaDoor.P Go.Proofs.YtmofdldplbplbaaDoorW.PrintWords Go.Proofs.YtmofdldplbplbaaDoorW.PrintLast Go.Proofs.YtmofdldplbplbaaDoorW.PrintMore Go.Proofs.YtmofdldplbplbaaDoor.Q
theorem arrays_both2 (n:Int) (l:List Int):∃b d c r q,(b.length≤62∧d.length≤62)∧Ev (fun k=>Qct.f k n l) (b,d,c)∧Ev (fun k=>Qcs.f k n l) (b,d,c)∧Ev (fun k=>Qcj.f k n l) (r,q)∧Ev (fun k=>Qci.f k n l) (r,q)∧(q=0→r=(c==0))∧((c=0∧isG n l∧joinedG n l∧IsB n l b∧IsC n l d)∨(c≠0∧b=[]∧d=[])):=by
 unfold Qct.f Qcs.f Qcj.f Qci.f
 obtain⟨c,hs,hi,hc⟩:=connCodes n l
 by_cases z:c=0
 ·obtain⟨hg,hj⟩:=hc.1 z
  obtain⟨p,hp,h1,h2⟩:=arrays_both hg hj
  obtain⟨p',hf,_,h3⟩:=s_arrays hg hj
  obtain rfl:=ev_uniq h1 h3
  rcases hf with⟨y,_,hb,hd⟩|⟨y,_⟩
  ·exact⟨p.1,p.2.1,0,true,0,hp,Ev.bind hs (ev_pos z (Ev.bind h1 (ev_pos y (Ev.now _)))),Ev.bind hi (ev_pos z (Ev.bind h2 (ev_pos y (Ev.now _)))),Ev.bind hs (ev_pos z (Ev.bind h1 (ev_some (by rw[y])))),Ev.bind hi (ev_pos z (Ev.bind h2 (ev_some (by rw[y])))),fun _=>rfl,.inl ⟨rfl,hg,hj,hb,hd⟩⟩
  ·have y:¬p.2.2=true:=by rw[y];simp
   have y':p.2.2=false:=by simpa using y
   exact⟨[],[],4,false,0,by simp,Ev.bind hs (ev_pos z (Ev.bind h1 (ev_neg y (Ev.now _)))),Ev.bind hi (ev_pos z (Ev.bind h2 (ev_neg y (Ev.now _)))),Ev.bind hs (ev_pos z (Ev.bind h1 (ev_some (by rw[y'])))),Ev.bind hi (ev_pos z (Ev.bind h2 (ev_some (by rw[y'])))),fun _=>rfl,.inr ⟨by decide,rfl,rfl⟩⟩
 ·exact⟨[],[],c,false,c,by simp,Ev.bind hs (ev_neg z (Ev.now _)),Ev.bind hi (ev_neg z (Ev.now _)),Ev.bind hs (ev_neg z (Ev.now _)),Ev.bind hi (ev_neg z (Ev.now _)),fun q=>absurd q z,.inr ⟨z,rfl,rfl⟩⟩
theorem c_walks {n:Int} {l:List Int} (h:rows n l) {u:Int} (u0:0≤u) (u1:u<n) (t:Nat) (t1:t≤1000):∀a:List Int,a.length=n.toNat→Ev (fun k=>Qad.l0 k u t a n l) (rd (steps l n t a) u,0):=by
 have n1:=h.1
 have n2:=h.2.1
 have hl:=h.2.2.1
 induction t with
 |zero=>
  intro a ha
  refine ev_k ?_
  simp only[Qad.l0]
  exact ev_neg (by omega) (ev_pos u0 (ev_pos (by omega) (Ev.now _)))
 |succ t ih=>
  intro a ha
  have mid:∀(e:Nat) (v:Nat) (b:List Int),(v:Int)≤n→n-v=e→b.length=n.toNat→Ev (fun k=>Qad.l1 k u ((t+1:Nat):Int) a b v n l) (rd (steps l n t (nextFrom l a e v b)) u,0):=by
   intro e
   induction e with
   |zero=>
    intro v b v1 he hb
    refine ev_k ?_
    simp only[Qad.l1]
    refine ev_neg (by omega) ?_
    rw[w64 (a:=((t+1:Nat):Int)-1) (by omega) (by omega),show((t+1:Nat):Int)-1=(t:Int) by omega]
    exact ih (by omega) b hb
   |succ e ihe=>
    intro v b v1 he hb
    obtain⟨hr0,hr1⟩:=h.2.2.2 v (by omega) (by omega)
    have inner:∀(q:Nat) (w:Nat) (c:List Int),(w:Int)≤n→n-w=q→c.length=n.toNat→Ev (fun k=>Qad.l2 k u ((t+1:Nat):Int) a c v w n l) (rd (steps l n t (nextFrom l a e (v+1) (addAll (rd a v) c (onesFrom (rd l v).toNat q w)))) u,0):=by
     intro q
     induction q with
     |zero=>
      intro w c w1 hq hc
      refine ev_k ?_
      simp only[Qad.l2]
      refine ev_neg (by omega) ?_
      rw[w64 (a:=(v:Int)+1) (by omega) (by omega)]
      exact ihe (v+1) c (by omega) (by omega) hc
     |succ q ihq=>
      intro w c w1 hq hc
      have hh:(bits .and .i64 (shr .i64 (rd l v) w) 1=1)↔tb (rd l v) w=true:=by rw[bit_at (by omega) (by omega)];cases tb (rd l v) w<;>simp
      have ht:tb (rd l v) w=(rd l v).toNat.testBit w:=by rw[tb_toNat hr0 (by omega),Int.toNat_natCast]
      by_cases hb:tb (rd l v) w=true
      ·have:=ihq (w+1) (c.set w (wrap64 (rd c w+rd a v))) (by omega) (by omega) (by simpa using hc)
       refine ev_k ?_
       simp only[Qad.l2]
       rw[wu64 (a:=(w:Int)) (by omega) (by omega),w64 (a:=(w:Int)+1) (by omega) (by omega)]
       refine ev_pos (by omega) (ev_pos (by omega) (ev_pos (by omega) (ev_pos (by omega) (ev_pos (hh.2 hb) (ev_pos (by omega) (ev_pos (by omega) (ev_pos (by omega) ?_)))))))
       rw[ht]at hb
       simp only[onesFrom,hb,if_true,addAll,Int.toNat_natCast]
       exact this
      ·have:=ihq (w+1) c (by omega) (by omega) hc
       refine ev_k ?_
       simp only[Qad.l2]
       rw[wu64 (a:=(w:Int)) (by omega) (by omega),w64 (a:=(w:Int)+1) (by omega) (by omega)]
       refine ev_pos (by omega) (ev_pos (by omega) (ev_pos (by omega) (ev_pos (by omega) (ev_neg (fun z=>hb (hh.1 z)) ?_))))
       rw[ht]at hb
       simp only[onesFrom,hb]
       exact this
    refine ev_k ?_
    simp only[Qad.l1]
    refine ev_pos (by omega) ?_
    have:=inner n.toNat 0 b (by omega) (by omega) hb
    rw[← ones_to (by omega) n2 hr0 hr1]at this
    simpa[nextFrom] using this
  refine ev_k ?_
  simp only[Qad.l0]
  refine ev_pos (by omega) (ev_pos (by omega) (ev_pos (by omega) ?_))
  exact mid n.toNat 0 _ (by omega) (by omega) (by simp)
theorem closed_both (n:Int) (l:List Int) (v t:Int):∃r c,Ev (fun k=>Qad.f k n l v t) (r,c)∧Ev (fun k=>Qcn.f k n l v t) (r,c)∧(c=0→isG n l∧(0≤v∧v<n)∧r=walksN n l v v t):=by
 obtain⟨c,hs,hi,hc⟩:=codes n l [v] (by simp)
 unfold Qad.f Qcn.f
 simp only[s_in,Option.bind_some]
 by_cases h0:c=0
 ·obtain⟨hG,hv⟩:=hc.1 h0
  have hg:=hG.1
  obtain⟨v0,v1⟩:=hv v (by simp)
  have n1:=hg.1
  have n2:=hg.2.1
  by_cases ht:0≤t∧t≤8
  ·have hx:=i_walks hg v0 v1 ht.1 (by omega)
   have hy:=c_walks hg v0 v1 t.toNat (by omega) ((List.replicate n.toNat 0).set v.toNat 1) (by simp)
   have hlen:=steps_length l n t.toNat ((List.replicate n.toNat 0).set v.toNat 1) (by simp)
   rw[Int.toNat_of_nonneg ht.1]at hy
   refine⟨walksN n l v v t,0,Ev.bind hs (ev_pos h0 (ev_k ?_)),Ev.bind hi (ev_pos h0 (ev_neg (by omega) (ev_neg (by omega) (Ev.bind hx (ev_pos v0 (ev_pos (by omega) (Ev.now _))))))),fun _=>⟨hG,⟨v0,v1⟩,rfl⟩⟩
   simp only[Qad.j0]
   refine ev_neg (by simp;omega) (ev_k ?_)
   simp only[Qad.j1]
   refine ev_pos h0 (ev_pos (by omega) (ev_pos (by omega) ?_))
   simp only[Option.bind_some]
   exact ev_pos v0 (ev_pos (by simp;omega) hy)
  ·refine⟨0,2,Ev.bind hs (ev_pos h0 (ev_k ?_)),Ev.bind hi (ev_pos h0 ?_),fun q=>by simp at q⟩
   ·simp only[Qad.j0]
    refine ev_pos (by simp;omega) (ev_k ?_)
    simp only[Qad.j1]
    exact ev_neg (by omega) (Ev.now _)
   ·by_cases h:t<0
    ·exact ev_pos h (Ev.now _)
    ·exact ev_neg h (ev_pos (by omega) (Ev.now _))
 ·refine⟨0,c,Ev.bind hs (ev_neg h0 (ev_k ?_)),Ev.bind hi (ev_neg h0 (Ev.now _)),fun q=>absurd q h0⟩
  simp only[Qad.j0]
  refine ev_neg (by simp) (ev_k ?_)
  simp only[Qad.j1]
  exact ev_neg h0 (Ev.now _)
theorem FnArrays:∀(l0:List Int),l0.length≤maxLen→(∀x ∈ l0,(Lit.int .u8 x).wf=true)→∃k,Qab.f k l0=some true:=by
 intro l _ hb
 refine Ev.rounds ?_
 unfold Qab.f Qcy.f
 simp only[Option.bind_some]
 by_cases h:(l.length:Int)>4096
 ·exact ev_pos (decide_eq_true h) (Ev.now _)
 refine ev_neg (by simpa using h) ?_
 have hl:Codes l:=⟨by omega,bytes_of hb⟩
 obtain⟨gn,gr,d1⟩:=arrays_in hl
 obtain⟨b,c,one,reg,two,hlen,as1,ai,rs,ri,hreg,hcase⟩:=arrays_both2 gn gr
 obtain⟨p,q,d2⟩:=lists_in hl
 obtain⟨xs,three,hxs,ns,ni,_⟩:=numbersAt_both p q
 obtain⟨feas,four,fs,fi,_⟩:=feas_both p q
 obtain⟨hn,hr,v,t,d3⟩:=closed_in hl
 obtain⟨w,five,cs,ci,hclosed⟩:=closed_both hn hr v t
 have h8:one=0→∀s,(s=false→1≤b.length∧b.length≤10)→Ev (fun z=>Qab.j8 z b c s gn gr) true:=by
  intro z s hs
  rcases hcase with⟨_,hg,hj,hb,hc⟩|⟨y,_⟩
  ·have hlen2:c.length=b.length:=by have:=hb.1;have:=hc.1;omega
   refine ev_k ?_
   simp only[Qab.j8]
   by_cases y:s=true
   ·exact ev_pos y (ev_some (by simp[hlen2]))
   ·obtain⟨l1,l2⟩:=hs (by simpa using y)
    have hok:=arr_ok hg hb hc l1 l2
    have hF:=arr_feas hg hj hb hc l1
    obtain⟨ys,e1,hys,_,n2,hnum⟩:=numbersAt_both b c
    obtain⟨f2,e2,_,g2,hfe⟩:=feas_both b c
    obtain⟨rfl,rfl⟩:=hnum hok _ (kl_ok hg hb hc)
    obtain⟨rfl,rfl⟩:=hfe hok hF
    have lv:=levels_val hg hj hb hc
    exact ev_neg y (Ev.bind n2 (Ev.bind lv (Ev.bind g2 (ev_pos rfl (ev_pos rfl (Ev.bind (like_self _ (by rw[kl_len];omega)) (ev_pos rfl (ev_pos rfl (Ev.now _)))))))))
  ·exact absurd z y
 have h7:∀s,s=false→Ev (fun z=>Qab.j7 z b c one s gn gr) true:=by
  rintro s rfl
  refine ev_k ?_
  simp only[Qab.j7]
  refine ev_neg (by simp) ?_
  by_cases z:one=0
  ·refine ev_pos z ?_
   by_cases y:(b.length:Int)=0
   ·exact ev_pos y (h8 z true (by simp))
   ·refine ev_neg y (h8 z _ fun q=>?_)
    have:=of_decide_eq_false q
    omega
  ·rcases hcase with⟨y,_⟩|⟨_,rfl,rfl⟩
   ·exact absurd y z
   ·exact ev_neg z (ev_pos (by simp) (ev_some (by simp)))
 have h6:Ev (fun z=>Qab.j6 z b c one reg two gn gr) true:=by
  refine ev_k ?_
  simp only[Qab.j6]
  by_cases z:two=0
  ·exact ev_pos z (h7 _ (by rw[hreg z];simp))
  ·exact ev_neg z (h7 _ rfl)
 have h5:∀s,(s=true→five=0∧t=2)→Ev (fun z=>Qab.j5 z b c one reg two v w s gn gr hn hr) true:=by
  intro s hs
  refine ev_k ?_
  simp only[Qab.j5]
  by_cases y:s=true
  ·obtain⟨z,t2⟩:=hs y
   obtain⟨hG,⟨v0,v1⟩,e⟩:=hclosed z
   subst t2
   exact ev_pos y (Ev.bind (nbs_val hG v0 v1) (ev_pos rfl (ev_pos (e.trans (closed_two hG v0 v1)) h6)))
  ·exact ev_neg y h6
 refine Ev.bind d1 (Ev.bind ai (Ev.bind as1 (ev_pos rfl (Ev.bind (like_self b (by omega)) (ev_pos rfl (Ev.bind (like_self c (by omega)) (ev_k ?_)))))))
 simp only[Qab.j0]
 refine ev_neg (by simp) (Ev.bind ri (Ev.bind rs (ev_pos rfl (ev_k ?_))))
 simp only[Qab.j1]
 refine ev_neg (by simp) (Ev.bind d2 (Ev.bind ni (Ev.bind ns (ev_pos rfl (Ev.bind (like_self xs (by omega)) (ev_k ?_))))))
 simp only[Qab.j2]
 refine ev_neg (by simp) (Ev.bind fi (Ev.bind fs (ev_pos rfl (ev_k ?_))))
 simp only[Qab.j3]
 refine ev_neg (by simp) (Ev.bind d3 (Ev.bind ci (Ev.bind cs (ev_pos rfl (ev_k ?_)))))
 simp only[Qab.j4]
 refine ev_neg (by simp) ?_
 by_cases z:five=0
 ·exact ev_pos z (h5 _ fun y=>⟨z,by simpa using y⟩)
 ·exact ev_neg z (h5 _ fun y=>by cases y)
end Go.Proofs.YtmofdldplbplbaaDoor.Pure
