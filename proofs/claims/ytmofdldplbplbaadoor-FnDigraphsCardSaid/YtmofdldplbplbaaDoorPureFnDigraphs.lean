/- The pure law and what it leans on, in one text (wip/bin/bundle). -/
import Derived.Test.YtmofdldplbplbaaDoorMFD16
import Derived.Test.YtmofdldplbplbaaDoorMFD18
import Derived.Test.YtmofdldplbplbaaDoorMFD21
import Derived.Test.YtmofdldplbplbaaDoorMFD22
import Derived.Test.YtmofdldplbplbaaDoorMFD1
import Derived.Test.YtmofdldplbplbaaDoorMFD9
import Derived.Test.YtmofdldplbplbaaDoorMFD5
import Derived.Test.YtmofdldplbplbaaDoorMFD7
import Derived.Test.YtmofdldplbplbaaDoorMFD8
import Derived.Test.YtmofdldplbplbaaDoorMFD4
import Derived.Test.YtmofdldplbplbaaDoorWA
import Derived.Test.YtmofdldplbplbaaDoorWBMore
import Derived.Laws.BitsLemmas
import Derived.Test.YtmofdldplbplbaaDoorMFD6
import Derived.Test.YtmofdldplbplbaaDoorMFD11
import Derived.Test.YtmofdldplbplbaaDoorMFD12
import Derived.Test.YtmofdldplbplbaaDoorMFD13
import Derived.Test.YtmofdldplbplbaaDoorMFD15
import Derived.Test.YtmofdldplbplbaaDoorMFD14
import Derived.Test.YtmofdldplbplbaaDoorMFD17
import Derived.Test.YtmofdldplbplbaaDoorMFD19
import Derived.Test.YtmofdldplbplbaaDoorMFD20
import Derived.Test.YtmofdldplbplbaaDoorMFD2
import Derived.Test.YtmofdldplbplbaaDoorMFD3
import Derived.Test.YtmofdldplbplbaaDoorMFD10
import Derived.Lib.TrailingZeros
set_option linter.unusedVariables false
set_option linter.unusedSimpArgs false
namespace Go.Proofs.YtmofdldplbplbaaDoor.Q
open Go Go.RowKit Go.Proofs.YtmofdldplbplbaaDoorW.PrintWords Go.Proofs.YtmofdldplbplbaaDoorW.PrintMore
theorem ev_k {α:Type} {g:Nat→Option α} {r:α} (h:Ev (fun k=>g (k+1)) r):Ev g r:=Ev.step (fun _=>rfl) h
theorem ev_some {α:Type} {r s:α} (h:r=s):Ev (fun _=>some r) s:=h ▸ Ev.now r
theorem ev_pos {α:Type} {c:Prop} [Decidable c] {f g:Nat→Option α} {r:α} (h:c) (H:Ev f r):Ev (fun k=>if c then f k else g k) r:=
  Ev.congr (fun _=>if_pos h) H
theorem ev_neg {α:Type} {c:Prop} [Decidable c] {f g:Nat→Option α} {r:α} (h:¬c) (H:Ev g r):Ev (fun k=>if c then f k else g k) r:=
  Ev.congr (fun _=>if_neg h) H
theorem ev_of {α:Type} {o:Option α} {r:α} (h:o=some r):Ev (fun _=>o) r:=⟨0,fun _ _=>h⟩
theorem ev_bind0 {α β:Type} {o:Option α} {f:Nat→α→Option β} {a:α} {r:β} (h:o=some a) (H:Ev (fun n=>f n a) r):Ev (fun n=>o.bind (f n)) r:=
  Ev.bind (ev_of h) H
theorem ev_uniq {α:Type} {g:Nat→Option α} {a b:α} (h:Ev g a) (k:Ev g b):a=b:=by
  obtain⟨m,h⟩:=h
  obtain⟨n,k⟩:=k
  exact Option.some.inj ((h (m+n) (by omega)).symm.trans (k (m+n) (by omega)))
theorem w64 {a:Int} (h0:-9223372036854775808≤a) (h1:a<9223372036854775808):wrap64 a=a:=by
  unfold wrap64
  omega
def Says (g:Nat→Option Bool) (P:Prop):Prop:=∃b:Bool,Ev g b∧(b=true↔P)
theorem says_iff {g:Nat→Option Bool} {P R:Prop} (h:P↔R) (H:Says g R):Says g P:=by
  obtain⟨b,hb,e⟩:=H
  exact⟨b,hb,e.trans h.symm⟩
theorem says_k {g:Nat→Option Bool} {P:Prop} (H:Says (fun k=>g (k+1)) P):Says g P:=by
  obtain⟨b,hb,e⟩:=H
  exact⟨b,ev_k hb,e⟩
theorem says_pos {c:Prop} [Decidable c] {f g:Nat→Option Bool} {P:Prop} (h:c) (H:Says f P):Says (fun k=>if c then f k else g k) P:=by
  obtain⟨b,hb,e⟩:=H
  exact⟨b,ev_pos h hb,e⟩
theorem says_neg {c:Prop} [Decidable c] {f g:Nat→Option Bool} {P:Prop} (h:¬c) (H:Says g P):Says (fun k=>if c then f k else g k) P:=by
  obtain⟨b,hb,e⟩:=H
  exact⟨b,ev_neg h hb,e⟩
theorem says_true {P:Prop} (h:P):Says (fun _=>some true) P:=⟨true,Ev.now _,by simp[h]⟩
theorem says_false {P:Prop} (h:¬P):Says (fun _=>some false) P:=⟨false,Ev.now _,by simp[h]⟩
theorem Says.yes {g:Nat→Option Bool} {P:Prop} (H:Says g P) (h:P):Ev g true:=by
  obtain⟨b,hb,e⟩:=H
  rw[e.2 h]at hb
  exact hb
theorem Says.no {g:Nat→Option Bool} {P:Prop} (H:Says g P) (h:¬P):Ev g false:=by
  obtain⟨b,hb,e⟩:=H
  cases b with
  |true=>exact absurd (e.1 rfl) h
  |false=>exact hb
end Go.Proofs.YtmofdldplbplbaaDoor.Q
namespace Go.Proofs.YtmofdldplbplbaaDoor.Q
open Go Go.RowKit Go.Proofs.YtmofdldplbplbaaDoorW.PrintWords Go.Proofs.YtmofdldplbplbaaDoorW.PrintLast Go.Proofs.YtmofdldplbplbaaDoorW.PrintMore
def tb (x i:Int):Bool:=decide (x/2 ^ i.toNat % 2=1)
theorem wu64 {a:Int} (h0:0≤a) (h1:a<18446744073709551616):IntKind.u64.wrap a=a:=by
  simp[IntKind.wrap,IntKind.bits,IntKind.signed]
  omega
theorem w64' (a:Int):IntKind.i64.wrap a=wrap64 a:=by
  rw[IntKind.wrap_i64]
  unfold wrap64
  rfl
theorem and_one (a:Int):bits .and .i64 a 1=a % 2:=by
  have e:(BitVec.ofInt 64 a &&& BitVec.ofInt 64 1).toNat=(a % 2).toNat:=by
    rw[BitVec.toNat_and,show(BitVec.ofInt 64 1).toNat=1 from rfl,Nat.and_one_is_mod,BitVec.toNat_ofInt]
    omega
  show IntKind.i64.wrap (((BitVec.ofInt 64 a &&& BitVec.ofInt 64 1).toNat:Nat):Int)=a % 2
  rw[e,w64']
  rw[w64]<;>omega
theorem shr_at {x i:Int} (i0:0≤i) (i1:i≤63):shr .i64 x i=x/2 ^ i.toNat:=by
  unfold shr
  rw[Nat.min_eq_left (by simp[IntKind.bits];omega)]
theorem bit_at {x i:Int} (i0:0≤i) (i1:i≤63):bits .and .i64 (shr .i64 x i) 1=if tb x i then 1 else 0:=by
  rw[and_one,shr_at i0 i1]
  unfold tb
  have:=Int.emod_two_eq (x/2 ^ i.toNat)
  rcases this with h|h<;>simp[h]
theorem bit_is {x i:Int} (i0:0≤i) (i1:i≤63):(bits .and .i64 (shr .i64 x i) 1==1)=tb x i:=by
  rw[bit_at i0 i1]
  cases tb x i<;>rfl
theorem bit_eq {x y i j:Int} (i0:0≤i) (i1:i≤63) (j0:0≤j) (j1:j≤63):bits .and .i64 (shr .i64 x i) 1=bits .and .i64 (shr .i64 y j) 1↔tb x i=tb y j:=by
  rw[bit_at i0 i1,bit_at j0 j1]
  cases tb x i<;>cases tb y j<;>simp
theorem two_pow_le {n:Int} (h0:0≤n) (h1:n≤62):(1:Int)≤2 ^ n.toNat∧(2:Int) ^ n.toNat≤4611686018427387904:=by
  have e:((2:Int) ^ n.toNat)=((2 ^ n.toNat:Nat):Int):=by simp
  have a:2 ^ n.toNat≤2 ^ 62:=Nat.pow_le_pow_right (by decide) (by omega)
  have b:1≤2 ^ n.toNat:=Nat.one_le_two_pow
  rw[e]
  omega
theorem shl_one {n:Int} (h0:0≤n) (h1:n≤62):shl .i64 1 n=2 ^ n.toNat:=by
  have:=two_pow_le h0 h1
  unfold shl
  rw[Nat.min_eq_left (by simp[IntKind.bits];omega),Int.one_mul,w64',w64]<;>omega
theorem tb_nat (x i:Nat):tb (x:Int) (i:Int)=x.testBit i:=by
  unfold tb
  rw[Nat.testBit_eq_decide_div_mod_eq]
  have:((x:Int)/2 ^ i) % 2=((x/2 ^ i % 2:Nat):Int):=by simp
  rw[Int.toNat_natCast,this]
  exact decide_eq_decide.2 (by omega)
theorem tb_toNat {x i:Int} (h0:0≤x) (i0:0≤i):tb x i=x.toNat.testBit i.toNat:=by
  rw[← tb_nat,Int.toNat_of_nonneg h0,Int.toNat_of_nonneg i0]
theorem tb_high {x i n:Int} (h0:0≤x) (h1:x<2 ^ n.toNat) (n0:0≤n) (hi:n≤i):tb x i=false:=by
  rw[tb_toNat h0 (by omega)]
  refine Nat.testBit_lt_two_pow ?_
  have e:((2:Int) ^ n.toNat)=((2 ^ n.toNat:Nat):Int):=by simp
  rw[e]at h1
  have:x.toNat<2 ^ n.toNat:=by omega
  exact Nat.lt_of_lt_of_le this (Nat.pow_le_pow_right (by decide) (by omega))
theorem tb_ext {x y n:Int} (x0:0≤x) (x1:x<2 ^ n.toNat) (y0:0≤y) (y1:y<2 ^ n.toNat) (n0:0≤n) (h:∀i,0≤i→i<n→tb x i=tb y i):x=y:=by
  have:x.toNat=y.toNat:=by
    refine Nat.eq_of_testBit_eq fun i=>?_
    by_cases hi:(i:Int)<n
    · have:=h i (by omega) hi
      rwa [tb_toNat x0 (by omega),tb_toNat y0 (by omega),Int.toNat_natCast]at this
    · have a:=tb_high (i:=i) x0 x1 n0 (by omega)
      have b:=tb_high (i:=i) y0 y1 n0 (by omega)
      rw[tb_toNat x0 (by omega),Int.toNat_natCast]at a
      rw[tb_toNat y0 (by omega),Int.toNat_natCast]at b
      rw[a,b]
  omega
theorem and_nat (a b:Nat) (ha:a<2 ^ 63) (hb:b<2 ^ 63):bits .and .i64 a b=((a &&& b:Nat):Int):=
  (bits_nat .i64 63 (by decide) (fun n h0 h1=>by rw[w64',w64]<;>omega) a b ha hb).1
theorem or_nat (a b:Nat) (ha:a<2 ^ 63) (hb:b<2 ^ 63):bits .or .i64 a b=((a ||| b:Nat):Int):=
  (bits_nat .i64 63 (by decide) (fun n h0 h1=>by rw[w64',w64]<;>omega) a b ha hb).2
theorem uand_nat (a b:Nat) (ha:a<2 ^ 64) (hb:b<2 ^ 64):bits .and .u64 a b=((a &&& b:Nat):Int):=
  (bits_nat .u64 64 (by decide) (fun n h0 h1=>wu64 h0 (by omega)) a b ha hb).1
set_option linter.unusedVariables false in
theorem andNot_nat (a b:Nat) (ha:a<2 ^ 63) (hb:b<2 ^ 63):∃c:Nat,bits .andNot .i64 a b=(c:Int)∧c<2 ^ 63∧∀i,c.testBit i=(a.testBit i&&!b.testBit i):=by
  refine⟨(BitVec.ofInt 64 a &&& ~~~ BitVec.ofInt 64 b).toNat,?_,?_,?_⟩
  · show IntKind.i64.wrap (((BitVec.ofInt 64 a &&& ~~~ BitVec.ofInt 64 b).toNat:Nat):Int)=_
    have:(BitVec.ofInt 64 a &&& ~~~ BitVec.ofInt 64 b).toNat<2 ^ 63:=by
      simp only[BitVec.ofInt_natCast,BitVec.toNat_and,BitVec.toNat_ofNat]
      have:(a % 2 ^ 64 &&& (~~~ BitVec.ofNat 64 b).toNat)≤a % 2 ^ 64:=Nat.and_le_left
      have:a % 2 ^ 64=a:=Nat.mod_eq_of_lt (by omega)
      omega
    rw[w64',w64]<;>omega
  · simp only[BitVec.ofInt_natCast,BitVec.toNat_and,BitVec.toNat_ofNat]
    have:(a % 2 ^ 64 &&& (~~~ BitVec.ofNat 64 b).toNat)≤a % 2 ^ 64:=Nat.and_le_left
    have:a % 2 ^ 64=a:=Nat.mod_eq_of_lt (by omega)
    omega
  · intro i
    simp only[BitVec.ofInt_natCast]
    rw[BitVec.testBit_toNat,BitVec.getLsbD_and,BitVec.getLsbD_not,BitVec.getLsbD_ofNat,BitVec.getLsbD_ofNat]
    by_cases hi:i<64
    · simp[hi]
    · simp[hi]
      intro h
      have:=Nat.testBit_lt_two_pow (Nat.lt_of_lt_of_le ha (Nat.pow_le_pow_right (by decide) (show 63≤i by omega)))
      simp[this]at h
end Go.Proofs.YtmofdldplbplbaaDoor.Q
namespace Go.Proofs.YtmofdldplbplbaaDoor.Q
open Go Go.RowKit Go.Proofs.YtmofdldplbplbaaDoor.P Go.Proofs.YtmofdldplbplbaaDoorW.PrintWords Go.Proofs.YtmofdldplbplbaaDoorW.PrintMore
theorem u_wrap (x:Int):0≤IntKind.u64.wrap x∧IntKind.u64.wrap x<18446744073709551616:=by
  simp[IntKind.wrap,IntKind.bits,IntKind.signed]
  omega
def Codes (l:List Int):Prop:=l.length≤4096∧∀x ∈ l,0≤x∧x<256
theorem code_at {l:List Int} (h:Codes l) (i:Int):0≤rd l i∧rd l i<256:=by
  by_cases hi:i.toNat<l.length
  · have:rd l i=l[i.toNat]:=by simp[rd,List.getD_eq_getElem?_getD,List.getElem?_eq_getElem hi]
    rw[this]
    exact h.2 _ (List.getElem_mem _)
  · have:rd l i=0:=by simp[rd,List.getD_eq_getElem?_getD,List.getElem?_eq_none (Nat.le_of_not_lt hi)]
    omega
def At (l:List Int) (a:Int):Prop:=0≤a∧a≤l.length
theorem mask_in (x:Int):0≤bits .and .u64 (IntKind.u64.wrap x/8589934592) 16777215∧bits .and .u64 (IntKind.u64.wrap x/8589934592) 16777215≤16777215:=by
  obtain⟨a,b⟩:=u_wrap x
  obtain⟨y,hy⟩:∃y:Nat,IntKind.u64.wrap x/8589934592=(y:Int):=⟨(IntKind.u64.wrap x/8589934592).toNat,by omega⟩
  rw[hy]
  have:=uand_nat y 16777215 (by omega) (by decide)
  rw[show((16777215:Nat):Int)=16777215 from rfl]at this
  rw[this]
  have h2:y &&& 16777215≤16777215:=Nat.and_le_right
  omega
theorem next_in {l:List Int} (hl:Codes l) {a:Int} (ha:At l a) (h n:Int) (n1:n<9223372036854775808):∃x a' h',Qab.f l a h n=some (x,a',h')∧At l a'∧0≤x∧(1≤n→x<n)∧(n<1→x=0):=by
  unfold Qab.f
  have hlen:=hl.1
  obtain⟨m0,m1⟩:=mask_in (IntKind.u64.wrap (h*6364136223846793005)+1442695040888963407)
  by_cases hn:n<1
  · rw[if_pos hn]
    exact⟨0,a,h,rfl,ha,by omega,by omega,fun _=>rfl⟩
  rw[if_neg hn]
  have key:∀y:Int,0≤y→0≤Int.tmod y n∧Int.tmod y n<n:=fun y hy=>by
    rw[Int.tmod_eq_emod_of_nonneg hy]
    exact⟨Int.emod_nonneg _ (by omega),Int.emod_lt_of_pos _ (by omega)⟩
  by_cases h1:a<(l.length:Int)
  · rw[if_pos h1,if_pos ha.1,if_neg (by omega)]
    obtain⟨r0,r1⟩:=code_at hl a
    rw[w64 (a:=bits .and .u64 _ _) (by omega) (by omega),w64 (a:=rd l a) (by omega) (by omega),w64 (a:=bits .and .u64 _ _+rd l a) (by omega) (by omega),w64 (a:=a+1) (by have:=ha.1;omega) (by omega)]
    obtain⟨k0,k1⟩:=key (bits .and .u64 (IntKind.u64.wrap (IntKind.u64.wrap (h*6364136223846793005)+1442695040888963407)/8589934592) 16777215+rd l a) (by omega)
    exact⟨_,_,_,rfl,⟨by have:=ha.1;omega,by omega⟩,k0,fun _=>k1,fun q=>absurd q hn⟩
  · rw[if_neg h1,if_neg (by omega)]
    rw[w64 (a:=bits .and .u64 _ _) (by omega) (by omega)]
    obtain⟨k0,k1⟩:=key (bits .and .u64 (IntKind.u64.wrap (IntKind.u64.wrap (h*6364136223846793005)+1442695040888963407)/8589934592) 16777215) (by omega)
    exact⟨_,_,_,rfl,ha,k0,fun _=>k1,fun q=>absurd q hn⟩
theorem pick_in {l:List Int} (hl:Codes l) {a:Int} (ha:At l a) (h:Int) (xs:List Int) (x0:0<xs.length) (x1:xs.length≤1000):∃x a' h',Qav.f l a h xs=some (x,a',h')∧At l a'∧x ∈ xs:=by
  obtain⟨i,a',h',e,ha',i0,i1,_⟩:=next_in hl ha h (xs.length:Int) (by omega)
  have i1:=i1 (by omega)
  refine⟨rd xs i,a',h',?_,ha',?_⟩
  · unfold Qav.f
    rw[e]
    simp only[Option.bind_some]
    rw[if_pos i0,if_pos i1]
  · have hi:i.toNat<xs.length:=by omega
    have:rd xs i=xs[i.toNat]:=by simp[rd,List.getD_eq_getElem?_getD,List.getElem?_eq_getElem hi]
    rw[this]
    exact List.getElem_mem _
theorem bytes_of {l:List Int} (h:∀x ∈ l,(Lit.int .u8 x).wf=true):∀x ∈ l,0≤x∧x<256:=fun x hx=>by
  have:=h x hx
  simp[Lit.wf,IntKind.min,IntKind.max,IntKind.signed,IntKind.bits]at this
  omega
end Go.Proofs.YtmofdldplbplbaaDoor.Q
namespace Go.Proofs.YtmofdldplbplbaaDoor.Q
open Go Go.RowKit Go.Proofs.YtmofdldplbplbaaDoor.P Go.Proofs.YtmofdldplbplbaaDoorW.PrintWords Go.Proofs.YtmofdldplbplbaaDoorW.PrintMore
theorem from_ev {l:List Int} (hl:Codes l):∃h,Ev (fun k=>Qas.f k l) (l,0,h):=by
  have loop:∀(d:Nat) (i h:Int),0≤i→i+d=l.length→∃h',Ev (fun k=>Qas.l0 k l i l 0 h) (l,(0:Int),h'):=by
    intro d
    induction d with
    |zero=>
      intro i h i0 hi
      refine⟨h,ev_k ?_⟩
      simp only[Qas.l0]
      exact ev_neg (by omega) (Ev.now _)
    |succ d ih=>
      intro i h i0 hi
      have:=hl.1
      obtain⟨h',e⟩:=ih (i+1) (IntKind.u64.wrap (IntKind.u64.wrap (IntKind.u64.wrap (h*1099511628211)+IntKind.u64.wrap (rd l i))+157)) (by omega) (by omega)
      refine⟨h',ev_k ?_⟩
      simp only[Qas.l0]
      rw[w64 (a:=i+1) (by omega) (by omega)]
      exact ev_pos (by omega) (ev_pos (by omega) (ev_pos i0 e))
  unfold Qas.f
  exact loop l.length 0 _ (by omega) (by omega)
theorem put_in (n:Int) {r:List Int} {v w:Int} (v0:0≤v) (v1:v<r.length) (w0:0≤w) (w1:w<r.length) (hl:r.length≤62):∃r',Qah.f n r v w=some r'∧r'.length=r.length:=by
  unfold Qah.f
  rw[if_pos v0,if_pos v1,wu64 w0 (by omega),if_pos w0]
  simp only[Option.bind_some]
  rw[if_pos w0,if_pos w1,wu64 v0 (by omega),if_pos v0]
  exact⟨_,rfl,by simp⟩
theorem drawof_in {l:List Int} (hl:Codes l) {n:Int} (n1:1≤n) (n2:n≤62) {a:Int} (ha:At l a) (h:Int):∃r a' h',(r.length:Int)=n∧At l a'∧Ev (fun k=>Qbc.f k l a h n) (n,r,a',h'):=by
  obtain⟨few,a1,h1,e1,ha1,_⟩:=pick_in hl ha h [1,2,3,4,n] (by simp) (by simp)
  have outer:∀(d:Nat) (v:Int) (r:List Int) (a h:Int),0≤v→v≤n→n-v=d→(r.length:Int)=n→At l a→∃r' a' h',(r'.length:Int)=n∧At l a'∧Ev (fun k=>Qbc.l0 k n few v l a h n r) (n,r',a',h'):=by
    intro d
    induction d with
    |zero=>
      intro v r a h v0 v1 hd hr ha
      refine⟨r,a,h,hr,ha,ev_k ?_⟩
      simp only[Qbc.l0]
      exact ev_neg (by omega) (Ev.now _)
    |succ d ih=>
      intro v r a h v0 v1 hd hr ha
      have inner:∀(e:Nat) (w:Int) (r:List Int) (a h:Int),0≤w→w≤v→v-w=e→(r.length:Int)=n→At l a→∃r' a' h',(r'.length:Int)=n∧At l a'∧Ev (fun k=>Qbc.l1 k n few v w l a h n r) (n,r',a',h'):=by
        intro e
        induction e with
        |zero=>
          intro w r a h w0 w1 he hr ha
          obtain⟨r',a',h',hr',ha',hE⟩:=ih (v+1) r a h (by omega) (by omega) (by omega) hr ha
          refine⟨r',a',h',hr',ha',ev_k ?_⟩
          simp only[Qbc.l1]
          rw[w64 (a:=v+1) (by omega) (by omega)]
          exact ev_neg (by omega) hE
        |succ e ihe=>
          intro w r a h w0 w1 he hr ha
          obtain⟨x,a2,h2,e2,ha2,_⟩:=next_in hl ha h n (by omega)
          by_cases z:x<few
          · obtain⟨p,hp,hpl⟩:=put_in n (r:=r) v0 (by omega) w0 (by omega) (by omega)
            obtain⟨r',a',h',hr',ha',hE⟩:=ihe (w+1) p a2 h2 (by omega) (by omega) (by omega) (by omega) ha2
            refine⟨r',a',h',hr',ha',ev_k ?_⟩
            simp only[Qbc.l1]
            rw[w64 (a:=w+1) (by omega) (by omega)]
            exact ev_pos (by omega) (ev_bind0 e2 (ev_pos z (ev_bind0 hp hE)))
          · obtain⟨r',a',h',hr',ha',hE⟩:=ihe (w+1) r a2 h2 (by omega) (by omega) (by omega) (by omega) ha2
            refine⟨r',a',h',hr',ha',ev_k ?_⟩
            simp only[Qbc.l1]
            rw[w64 (a:=w+1) (by omega) (by omega)]
            exact ev_pos (by omega) (ev_bind0 e2 (ev_neg z hE))
      obtain⟨r',a',h',hr',ha',hE⟩:=inner v.toNat 0 r a h (by omega) (by omega) (by omega) hr ha
      refine⟨r',a',h',hr',ha',ev_k ?_⟩
      simp only[Qbc.l0]
      exact ev_pos (by omega) hE
  obtain⟨r',a',h',hr',ha',hE⟩:=outer n.toNat 0 (List.replicate n.toNat 0) a1 h1 (by omega) (by omega) (by omega) (by simp;omega) ha1
  refine⟨r',a',h',hr',ha',?_⟩
  unfold Qbc.f Qau.f
  rw[if_pos (by omega),if_pos (by omega)]
  simp only[Option.bind_some]
  exact ev_bind0 e1 hE
end Go.Proofs.YtmofdldplbplbaaDoor.Q
namespace Go.Proofs.YtmofdldplbplbaaDoor.Q
open Go Go.RowKit Go.Proofs.YtmofdldplbplbaaDoorW.PrintWords Go.Proofs.YtmofdldplbplbaaDoorW.PrintMore
theorem le_refl {α:Type} (a:Option α):LeO a a:=fun _ h=>h
theorem le_none {α:Type} (b:Option α):LeO Option.none b:=fun _ h=>by cases h
theorem le_ite {α:Type} {c:Prop} [Decidable c] {a a' b b':Option α} (h:LeO a a') (k:LeO b b'):LeO (if c then a else b) (if c then a' else b'):=by split<;>assumption
theorem le_bind {α β:Type} {a a':Option α} {f f':α→Option β} (h:LeO a a') (k:∀x,LeO (f x) (f' x)):LeO (a.bind f) (a'.bind f'):=by
  intro r hr
  obtain⟨x,hx,hf⟩:=Option.bind_eq_some_iff.1 hr
  rw[h x hx]
  exact k x r hf
end Go.Proofs.YtmofdldplbplbaaDoor.Q
namespace Go.Proofs.YtmofdldplbplbaaDoor.Q
open Go Go.RowKit Go.Proofs.YtmofdldplbplbaaDoor.P Go.Proofs.YtmofdldplbplbaaDoorW.PrintWords Go.Proofs.YtmofdldplbplbaaDoorW.PrintMore
theorem mono_words:∀k,(∀y0 y1 y2,LeO (Qbl.j0 k y0 y1 y2) (Qbl.j0 (k+1) y0 y1 y2))∧(∀y0 y1 y2,LeO (Qbl.l0 k y0 y1 y2) (Qbl.l0 (k+1) y0 y1 y2))
  |0=>⟨fun _ _ _ r h=>by simp[Qbl.j0]at h,fun _ _ _ r h=>by simp[Qbl.l0]at h⟩
  |k+1=>by
    obtain⟨ih_j0,ih_l0⟩:=mono_words k
    refine⟨?_,?_⟩
    · intro y0 y1 y2
      unfold Qbl.j0
      repeat' first|(with_reducible exact ih_l0 _ _ _)|(with_reducible exact le_refl _)|(with_reducible exact le_none _)|(with_reducible refine le_ite ?_ ?_)|(with_reducible refine le_bind ?_ (fun _=>?_))
    · intro y0 y1 y2
      unfold Qbl.l0
      repeat' first|(with_reducible exact ih_l0 _ _ _)|(with_reducible exact le_refl _)|(with_reducible exact le_none _)|(with_reducible refine le_ite ?_ ?_)|(with_reducible refine le_bind ?_ (fun _=>?_))
theorem mono_follows:∀k,∀y0 y1 y2,LeO (Qbx.l0 k y0 y1 y2) (Qbx.l0 (k+1) y0 y1 y2)
  |0=>fun _ _ _ r h=>by simp[Qbx.l0]at h
  |k+1=>by
    have ih_l0:=mono_follows k
    intro y0 y1 y2
    unfold Qbx.l0
    repeat' first|(with_reducible exact ih_l0 _ _ _)|(with_reducible exact le_refl _)|(with_reducible exact le_none _)|(with_reducible refine le_ite ?_ ?_)|(with_reducible refine le_bind ?_ (fun _=>?_))
theorem mono_dig:∀k,(∀y0 y1 y2 y3 y4,LeO (Qac.l0 k y0 y1 y2 y3 y4) (Qac.l0 (k+1) y0 y1 y2 y3 y4))∧(∀y0 y1 y2 y3 y4 y5,LeO (Qac.l1 k y0 y1 y2 y3 y4 y5) (Qac.l1 (k+1) y0 y1 y2 y3 y4 y5))
  |0=>⟨fun _ _ _ _ _ r h=>by simp[Qac.l0]at h,fun _ _ _ _ _ _ r h=>by simp[Qac.l1]at h⟩
  |k+1=>by
    obtain⟨ih_l0,ih_l1⟩:=mono_dig k
    refine⟨?_,?_⟩
    · intro y0 y1 y2 y3 y4
      unfold Qac.l0
      repeat' first|(with_reducible exact ih_l1 _ _ _ _ _ _)|(with_reducible exact le_refl _)|(with_reducible exact le_none _)|(with_reducible refine le_ite ?_ ?_)|(with_reducible refine le_bind ?_ (fun _=>?_))
    · intro y0 y1 y2 y3 y4 y5
      unfold Qac.l1 Qbx.f
      repeat' first|(with_reducible exact ih_l1 _ _ _ _ _ _)|(with_reducible exact ih_l0 _ _ _ _ _)|(with_reducible exact mono_follows k _ _ _)|(with_reducible exact le_refl _)|(with_reducible exact le_none _)|(with_reducible refine le_ite ?_ ?_)|(with_reducible refine le_bind ?_ (fun _=>?_))
theorem mono_list:∀k,(∀y0 y1 y2 y3 y4 y5,LeO (Qay.j0 k y0 y1 y2 y3 y4 y5) (Qay.j0 (k+1) y0 y1 y2 y3 y4 y5))∧(∀y0 y1 y2 y3 y4 y5 y6,LeO (Qay.l0 k y0 y1 y2 y3 y4 y5 y6) (Qay.l0 (k+1) y0 y1 y2 y3 y4 y5 y6))∧(∀y0 y1 y2 y3 y4 y5 y6 y7,LeO (Qay.j2 k y0 y1 y2 y3 y4 y5 y6 y7) (Qay.j2 (k+1) y0 y1 y2 y3 y4 y5 y6 y7))∧(∀y0 y1 y2 y3,LeO (Qay.f k y0 y1 y2 y3) (Qay.f (k+1) y0 y1 y2 y3))
  |0=>⟨fun _ _ _ _ _ _ r h=>by simp[Qay.j0]at h,fun _ _ _ _ _ _ _ r h=>by simp[Qay.l0]at h,fun _ _ _ _ _ _ _ _ r h=>by simp[Qay.j2]at h,fun _ _ _ _ r h=>by simp[Qay.f]at h⟩
  |k+1=>by
    obtain⟨ih_j0,ih_l0,ih_j2,ih_f⟩:=mono_list k
    refine⟨?_,?_,?_,?_⟩
    · intro y0 y1 y2 y3 y4 y5
      unfold Qay.j0
      repeat' first|(with_reducible exact ih_l0 _ _ _ _ _ _ _)|(with_reducible exact le_refl _)|(with_reducible exact le_none _)|(with_reducible refine le_ite ?_ ?_)|(with_reducible refine le_bind ?_ (fun _=>?_))
    · intro y0 y1 y2 y3 y4 y5 y6
      unfold Qay.l0
      repeat' first|(with_reducible exact ih_j2 _ _ _ _ _ _ _ _)|(with_reducible exact le_refl _)|(with_reducible exact le_none _)|(with_reducible refine le_ite ?_ ?_)|(with_reducible refine le_bind ?_ (fun _=>?_))
    · intro y0 y1 y2 y3 y4 y5 y6 y7
      unfold Qay.j2
      repeat' first|(with_reducible exact ih_l0 _ _ _ _ _ _ _)|(with_reducible exact ih_f _ _ _ _)|(with_reducible exact le_refl _)|(with_reducible exact le_none _)|(with_reducible refine le_ite ?_ ?_)|(with_reducible refine le_bind ?_ (fun _=>?_))
    · intro y0 y1 y2 y3
      unfold Qay.f
      repeat' first|(with_reducible exact ih_j0 _ _ _ _ _ _)|(with_reducible exact le_refl _)|(with_reducible exact le_none _)|(with_reducible refine le_ite ?_ ?_)|(with_reducible refine le_bind ?_ (fun _=>?_))
theorem mono_bruijn0:∀k,∀y0 y1 y2,LeO (Qbk.j0 k y0 y1 y2) (Qbk.j0 (k+1) y0 y1 y2)
  |0=>fun _ _ _ r h=>by simp[Qbk.j0]at h
  |k+1=>by
    have ih_j0:=mono_bruijn0 k
    intro y0 y1 y2
    unfold Qbk.j0 Qbl.f Qac.f
    repeat' first|(with_reducible exact(mono_words k).1 _ _ _)|(with_reducible exact(mono_list k).2.2.2 _ _ _ _)|(with_reducible exact(mono_dig k).1 _ _ _ _ _)|(with_reducible exact le_refl _)|(with_reducible exact le_none _)|(with_reducible refine le_ite ?_ ?_)|(with_reducible refine le_bind ?_ (fun _=>?_))
theorem mono_kautz0:∀k,∀y0 y1 y2,LeO (Qcc.j0 k y0 y1 y2) (Qcc.j0 (k+1) y0 y1 y2)
  |0=>fun _ _ _ r h=>by simp[Qcc.j0]at h
  |k+1=>by
    have ih_j0:=mono_kautz0 k
    intro y0 y1 y2
    unfold Qcc.j0 Qbl.f
    repeat' first|(with_reducible exact(mono_words k).1 _ _ _)|(with_reducible exact le_refl _)|(with_reducible exact le_none _)|(with_reducible refine le_ite ?_ ?_)|(with_reducible refine le_bind ?_ (fun _=>?_))
theorem mono_bruijn (d e:Int):∀k,LeO (Qbk.f k d e) (Qbk.f (k+1) d e):=by
  intro k
  unfold Qbk.f
  repeat' first|(with_reducible exact mono_bruijn0 k _ _ _)|(with_reducible exact le_refl _)|(with_reducible exact le_none _)|(with_reducible refine le_ite ?_ ?_)|(with_reducible refine le_bind ?_ (fun _=>?_))
theorem mono_kautz (d e:Int):∀k,LeO (Qcs.f k d e) (Qcs.f (k+1) d e):=by
  intro k
  unfold Qcs.f Qcc.f Qac.f
  repeat' first|(with_reducible exact mono_kautz0 k _ _ _)|(with_reducible exact(mono_list k).2.2.2 _ _ _ _)|(with_reducible exact(mono_dig k).1 _ _ _ _ _)|(with_reducible exact le_refl _)|(with_reducible exact le_none _)|(with_reducible refine le_ite ?_ ?_)|(with_reducible refine le_bind ?_ (fun _=>?_))
def okD (o:Option (Int × List Int × Int)):Bool:=match o with
  |some q=>decide (q.2.2=0)&&(decide (0≤q.1)&&decide (q.1≤60))&&(decide (1≤q.2.1.length)&&decide (q.2.1.length≤62))
  |none=>false
set_option maxRecDepth 1000000
theorem few_bruijn:[(2:Int),3].all (fun d=>[(1:Int),2,3].all fun k=>okD (Qbk.f 3000 d k))=true:=by decide +kernel
theorem few_kautz:[(1:Int),2,3].all (fun d=>[(1:Int),2,3].all fun k=>okD (Qcs.f 3000 d k))=true:=by decide +kernel
theorem ok_ev {g:Nat→Option (Int × List Int × Int)} (hm:∀k,LeO (g k) (g (k+1))) (h:okD (g 3000)=true):∃n r,(0≤n∧n≤60)∧(1≤r.length∧r.length≤62)∧Ev g (n,r,0):=by
  unfold okD at h
  split at h
  · rename_i q e
    simp only[Bool.and_eq_true,decide_eq_true_eq]at h
    obtain⟨⟨h0,h1⟩,h2⟩:=h
    obtain⟨n,r,c⟩:=q
    have h0:c=0:=h0
    subst h0
    exact⟨n,r,h1,h2,Ev.of hm e⟩
  · cases h
theorem bruijn_few {d k:Int} (hd:d ∈ [(2:Int),3]) (hk:k ∈ [(1:Int),2,3]):∃n r,(0≤n∧n≤60)∧(1≤r.length∧r.length≤62)∧Ev (fun z=>Qbk.f z d k) (n,r,0):=ok_ev (mono_bruijn d k) (List.all_eq_true.1 (List.all_eq_true.1 few_bruijn d hd) k hk)
theorem kautz_few {d k:Int} (hd:d ∈ [(1:Int),2,3]) (hk:k ∈ [(1:Int),2,3]):∃n r,(0≤n∧n≤60)∧(1≤r.length∧r.length≤62)∧Ev (fun z=>Qcs.f z d k) (n,r,0):=ok_ev (mono_kautz d k) (List.all_eq_true.1 (List.all_eq_true.1 few_kautz d hd) k hk)
end Go.Proofs.YtmofdldplbplbaaDoor.Q
namespace Go.Proofs.YtmofdldplbplbaaDoor.Q
open Go Go.RowKit Go.Proofs.YtmofdldplbplbaaDoorW.PrintWords
def rows (n:Int) (l:List Int):Prop:=1≤n∧n≤62∧(l.length:Int)=n∧∀v,0≤v→v<n→0≤rd l v∧rd l v<2 ^ n.toNat
def isG (n:Int) (l:List Int):Prop:=rows n l∧(∀v,0≤v→v<n→tb (rd l v) v=false)∧∀v w,0≤v→v<n→0≤w→w<n→tb (rd l v) w=tb (rd l w) v
theorem rows.nat {n:Int} {l:List Int} (h:rows n l) {v:Int} (h0:0≤v) (h1:v<n):∃x:Nat,rd l v=(x:Int)∧x<2 ^ n.toNat∧x<2 ^ 62:=by
  obtain⟨a,b,c,d⟩:=h
  obtain⟨d0,d1⟩:=d v h0 h1
  have e:((2:Int) ^ n.toNat)=((2 ^ n.toNat:Nat):Int):=by simp
  have p:2 ^ n.toNat≤2 ^ 62:=Nat.pow_le_pow_right (by decide) (by omega)
  rw[e]at d1
  exact⟨(rd l v).toNat,by omega,by omega,by omega⟩
end Go.Proofs.YtmofdldplbplbaaDoor.Q
namespace Go.Proofs.YtmofdldplbplbaaDoor.Q
open Go Go.RowKit Go.Proofs.YtmofdldplbplbaaDoor.P
theorem s_in (a b c:Int):Qam.f a b c=some (decide (b≤a∧a≤c)):=by
  unfold Qam.f
  split
  · exact congrArg some (decide_eq_decide.2 (by omega))
  · exact congrArg some (decide_eq_false (by omega)).symm
end Go.Proofs.YtmofdldplbplbaaDoor.Q
namespace Go.Proofs.YtmofdldplbplbaaDoor.Q
open Go Go.RowKit
def pc:Nat→Nat→Nat
  |0,_=>0
  |n+1,x=>x % 2+pc n (x/2)
theorem pc_le (n:Nat):∀x,pc n x≤n:=by
  induction n with
  |zero=>intro x;simp[pc]
  |succ n ih=>intro x;simp only[pc];have:=ih (x/2);omega
theorem pc_add (a:Nat):∀b x,pc (a+b) x=pc a x+pc b (x/2 ^ a):=by
  induction a with
  |zero=>intro b x;simp[pc]
  |succ a ih=>
    intro b x
    rw[show a+1+b=(a+b)+1 by omega]
    simp only[pc]
    rw[ih,Nat.div_div_eq_div_mul,Nat.pow_succ',Nat.add_assoc]
theorem pc_zero (n:Nat):pc n 0=0:=by
  induction n with
  |zero=>rfl
  |succ n ih=>simp[pc,ih]
theorem pc_big {m n x:Nat} (h:x<2 ^ m) (hn:m≤n):pc n x=pc m x:=by
  obtain⟨b,rfl⟩:∃b,n=m+b:=⟨n-m,by omega⟩
  rw[pc_add,Nat.div_eq_of_lt h,pc_zero]
  rfl
def rep (B d:Nat):Nat→Nat
  |0=>0
  |n+1=>rep B d n*B+d
theorem and_rep (w d n x:Nat) (hd:d<2 ^ w):x &&& rep (2 ^ w) d (n+1)=(x/2 ^ w &&& rep (2 ^ w) d n)*2 ^ w+(x % 2 ^ w &&& d):=by
  have h1:(x &&& rep (2 ^ w) d (n+1))/2 ^ w=x/2 ^ w &&& rep (2 ^ w) d n:=by
    rw[Nat.and_div_two_pow]
    congr 1
    simp only[rep]
    rw[Nat.mul_comm,Nat.mul_add_div (Nat.two_pow_pos w),Nat.div_eq_of_lt hd]
    rfl
  have h2:(x &&& rep (2 ^ w) d (n+1)) % 2 ^ w=x % 2 ^ w &&& d:=by
    rw[Nat.and_mod_two_pow]
    congr 1
    simp only[rep]
    rw[Nat.mul_comm,Nat.mul_add_mod,Nat.mod_eq_of_lt hd]
  have:=Nat.div_add_mod (x &&& rep (2 ^ w) d (n+1)) (2 ^ w)
  rw[h1,h2,Nat.mul_comm]at this
  exact this.symm
def sA (n x:Nat):Nat:=(x/2 &&& rep 4 1 n)+(x &&& rep 4 1 n)
theorem sA_succ (n x:Nat):sA (n+1) x=sA n (x/4)*4+pc 2 x:=by
  have a:=and_rep 2 1 n (x/2) (by decide)
  have b:=and_rep 2 1 n x (by decide)
  simp only[show(2:Nat) ^ 2=4 from rfl,Nat.and_one_is_mod]at a b
  unfold sA
  rw[a,b,show x/2/4=x/8 by omega,show x/4/2=x/8 by omega]
  simp only[pc]
  omega
theorem sA_lt (n:Nat):∀x,sA n x<4 ^ n∨n=0∧sA n x=0:=by
  induction n with
  |zero=>intro x;right;exact⟨rfl,by simp[sA,rep]⟩
  |succ n ih=>
    intro x
    left
    have:=pc_le 2 x
    rw[sA_succ,Nat.pow_succ]
    rcases ih (x/4) with h|⟨rfl,h⟩
    · omega
    · rw[h];omega
theorem digs (q a b:Nat) (ha:a≤2) (hb:b≤2):(q*16+b*4+a)/4/16=q/4∧(q*16+b*4+a)/16=q∧(q*16+b*4+a)/4 % 16 % 4=b∧(q*16+b*4+a) % 16 % 4=a:=by
  have e:(q*16+b*4+a)/4=q*4+b:=by omega
  rw[e,Nat.mod_mod_of_dvd _ (by decide:4 ∣ 16),Nat.mod_mod_of_dvd _ (by decide:4 ∣ 16)]
  omega
theorem digs2 (q a b:Nat) (ha:a≤4) (hb:b≤4) (hq:q % 16≤4):((q*256+b*16+a)/16+(q*256+b*16+a))/256=q/16+q∧((q*256+b*16+a)/16+(q*256+b*16+a)) % 256 % 16=a+b:=by
  have e:(q*256+b*16+a)/16=q*16+b:=by omega
  rw[e,Nat.mod_mod_of_dvd _ (by decide:16 ∣ 256)]
  omega
def sB (n x:Nat):Nat:=(sA (2*n) x/4 &&& rep 16 3 n)+(sA (2*n) x &&& rep 16 3 n)
theorem sB_succ (n x:Nat):sB (n+1) x=sB n (x/16)*16+pc 4 x:=by
  have e:sA (2*(n+1)) x=sA (2*n) (x/16)*16+pc 2 (x/4)*4+pc 2 x:=by
    rw[show 2*(n+1)=(2*n+1)+1 by omega,sA_succ,sA_succ,show x/4/4=x/16 by omega]
    omega
  have p1:=pc_le 2 x
  have p2:=pc_le 2 (x/4)
  have p4:pc 4 x=pc 2 x+pc 2 (x/4):=pc_add 2 2 x
  have a:=and_rep 4 3 n (sA (2*(n+1)) x/4) (by decide)
  have b:=and_rep 4 3 n (sA (2*(n+1)) x) (by decide)
  have m3:∀y:Nat,y &&& 3=y % 4:=fun y=>by simpa using Nat.and_two_pow_sub_one_eq_mod y 2
  simp only[show(2:Nat) ^ 4=16 from rfl,m3]at a b
  unfold sB
  rw[a,b]
  obtain⟨e1,e2,e3,e4⟩:=digs (sA (2*n) (x/16)) _ _ p1 p2
  rw[e,e1,e2,e3,e4,p4]
  omega
theorem sB_zero (x:Nat):sB 0 x=0:=by simp[sB,rep]
theorem sB_lt (n:Nat):∀x,sB n x<16 ^ n∧sB n x % 16≤4:=by
  induction n with
  |zero=>intro x;rw[sB_zero];omega
  |succ n ih=>
    intro x
    have:=pc_le 4 x
    have:=(ih (x/16)).1
    rw[sB_succ,Nat.pow_succ]
    omega
def sC (n x:Nat):Nat:=sB (2*n) x/16+sB (2*n) x &&& rep 256 15 n
theorem sC_succ (n x:Nat):sC (n+1) x=sC n (x/256)*256+pc 8 x:=by
  have e:sB (2*(n+1)) x=sB (2*n) (x/256)*256+pc 4 (x/16)*16+pc 4 x:=by
    rw[show 2*(n+1)=(2*n+1)+1 by omega,sB_succ,sB_succ,show x/16/16=x/256 by omega]
    omega
  have p1:=pc_le 4 x
  have p2:=pc_le 4 (x/16)
  have p8:pc 8 x=pc 4 x+pc 4 (x/16):=pc_add 4 4 x
  have q:=(sB_lt (2*n) (x/256)).2
  have a:=and_rep 8 15 n (sB (2*(n+1)) x/16+sB (2*(n+1)) x) (by decide)
  have m15:∀y:Nat,y &&& 15=y % 16:=fun y=>by simpa using Nat.and_two_pow_sub_one_eq_mod y 4
  simp only[show(2:Nat) ^ 8=256 from rfl,m15]at a
  unfold sC
  rw[a]
  obtain⟨e1,e2⟩:=digs2 (sB (2*n) (x/256)) _ _ p1 p2 q
  rw[e,e1,e2,p8]
theorem sC_eight (x:Nat):sC 8 x=pc 8 x+256*pc 8 (x/256)+65536*pc 8 (x/65536)+16777216*pc 8 (x/16777216)+4294967296*pc 8 (x/4294967296)+1099511627776*pc 8 (x/1099511627776)+281474976710656*pc 8 (x/281474976710656)+72057594037927936*pc 8 (x/72057594037927936):=by
  have z:∀y,sC 0 y=0:=fun y=>by simp[sC,rep]
  have s:∀n y q,sC (n+1) (y/q)=sC n (y/(q*256))*256+pc 8 (y/q):=fun n y q=>by rw[sC_succ,Nat.div_div_eq_div_mul]
  rw[show(8:Nat)=7+1 from rfl,sC_succ 7 x,s 6 x,s 5 x,s 4 x,s 3 x,s 2 x,s 1 x,s 0 x,z]
  simp only[Nat.reduceMul,Nat.reduceAdd]
  omega
theorem pc_eight (x:Nat):pc 64 x=pc 8 x+pc 8 (x/256)+pc 8 (x/65536)+pc 8 (x/16777216)+pc 8 (x/4294967296)+pc 8 (x/1099511627776)+pc 8 (x/281474976710656)+pc 8 (x/72057594037927936):=by
  have h:∀n y,pc (8+n) y=pc 8 y+pc n (y/256):=fun n y=>pc_add 8 n y
  rw[show 64=8+(8+(8+(8+(8+(8+(8+8)))))) from rfl]
  simp only[h,Nat.div_div_eq_div_mul,Nat.reduceMul]
  omega
set_option maxHeartbeats 1000000 in
theorem swar (x:Nat):((sC 8 x+sC 8 x/256)+(sC 8 x+sC 8 x/256)/65536+((sC 8 x+sC 8 x/256)+(sC 8 x+sC 8 x/256)/65536)/4294967296) % 128=pc 64 x:=by
  rw[sC_eight,pc_eight]
  have a0:=pc_le 8 x
  have a1:=pc_le 8 (x/256)
  have a2:=pc_le 8 (x/65536)
  have a3:=pc_le 8 (x/16777216)
  have a4:=pc_le 8 (x/4294967296)
  have a5:=pc_le 8 (x/1099511627776)
  have a6:=pc_le 8 (x/281474976710656)
  have a7:=pc_le 8 (x/72057594037927936)
  generalize pc 8 x=d0 at *
  generalize pc 8 (x/256)=d1 at *
  generalize pc 8 (x/65536)=d2 at *
  generalize pc 8 (x/16777216)=d3 at *
  generalize pc 8 (x/4294967296)=d4 at *
  generalize pc 8 (x/1099511627776)=d5 at *
  generalize pc 8 (x/281474976710656)=d6 at *
  generalize pc 8 (x/72057594037927936)=d7 at *
  have e1:(d0+256*d1+65536*d2+16777216*d3+4294967296*d4+1099511627776*d5+281474976710656*d6+72057594037927936*d7)/256=d1+256*d2+65536*d3+16777216*d4+4294967296*d5+1099511627776*d6+281474976710656*d7:=by omega
  rw[e1]
  have e2:(d0+256*d1+65536*d2+16777216*d3+4294967296*d4+1099511627776*d5+281474976710656*d6+72057594037927936*d7+(d1+256*d2+65536*d3+16777216*d4+4294967296*d5+1099511627776*d6+281474976710656*d7))/65536=(d2+d3)+256*(d3+d4)+65536*(d4+d5)+16777216*(d5+d6)+4294967296*(d6+d7)+1099511627776*d7:=by omega
  rw[e2]
  have e3:(d0+256*d1+65536*d2+16777216*d3+4294967296*d4+1099511627776*d5+281474976710656*d6+72057594037927936*d7+(d1+256*d2+65536*d3+16777216*d4+4294967296*d5+1099511627776*d6+281474976710656*d7)+((d2+d3)+256*(d3+d4)+65536*(d4+d5)+16777216*(d5+d6)+4294967296*(d6+d7)+1099511627776*d7))/4294967296=(d4+d5+d6+d7)+256*(d5+d6+d7)+65536*(d6+d7)+16777216*d7:=by omega
  rw[e3]
  omega
theorem sC_bound (x:Nat):sC 8 x<720575940379279360:=by
  rw[sC_eight]
  have a0:=pc_le 8 x
  have a1:=pc_le 8 (x/256)
  have a2:=pc_le 8 (x/65536)
  have a3:=pc_le 8 (x/16777216)
  have a4:=pc_le 8 (x/4294967296)
  have a5:=pc_le 8 (x/1099511627776)
  have a6:=pc_le 8 (x/281474976710656)
  have a7:=pc_le 8 (x/72057594037927936)
  omega
theorem mA (x:Nat) (hx:x<2 ^ 64):IntKind.u64.wrap (bits .and .u64 ((x:Int)/2) 6148914691236517205+bits .and .u64 (x:Int) 6148914691236517205)=((sA 32 x:Nat):Int)∧sA 32 x<2 ^ 64:=by
  have hb:sA 32 x<2 ^ 64:=by rcases sA_lt 32 x with h|⟨h,_⟩<;>omega
  refine⟨?_,hb⟩
  have e:rep 4 1 32=6148914691236517205:=by decide
  rw[show((x:Int)/2)=((x/2:Nat):Int) by omega,show(6148914691236517205:Int)=((6148914691236517205:Nat):Int) from rfl,uand_nat _ _ (by omega) (by decide),uand_nat _ _ hx (by decide)]
  rw[← e]
  rw[← Int.natCast_add]
  exact wu64 (by omega) (by unfold sA at hb;omega)
theorem mB (x:Nat) (hx:x<2 ^ 64):IntKind.u64.wrap (bits .and .u64 ((sA 32 x:Nat)/4) 3689348814741910323+bits .and .u64 (sA 32 x:Nat) 3689348814741910323)=((sB 16 x:Nat):Int)∧sB 16 x<2 ^ 64:=by
  have ha:=(mA x hx).2
  have hb:sB 16 x<2 ^ 64:=(sB_lt 16 x).1
  refine⟨?_,hb⟩
  have e:rep 16 3 16=3689348814741910323:=by decide
  rw[show(((sA 32 x:Nat):Int)/4)=((sA 32 x/4:Nat):Int) by omega,show(3689348814741910323:Int)=((3689348814741910323:Nat):Int) from rfl,uand_nat _ _ (by omega) (by decide),uand_nat _ _ ha (by decide)]
  rw[← e]
  rw[← Int.natCast_add]
  exact wu64 (by omega) (by unfold sB at hb;simp only[show 2*16=32 from rfl]at hb;omega)
theorem sB_half (x:Nat):sB 16 x/16+sB 16 x<2 ^ 64:=by
  have h:=sB_succ 15 x
  have h1:=(sB_lt 15 (x/16)).1
  have h2:=(sB_lt 15 (x/16)).2
  have h3:=sB_succ 14 (x/16)
  have e:sB 16 x<6*16 ^ 15:=by
    have k:∀n y,sB n y*15+4≤4*16 ^ n:=by
      intro n
      induction n with
      |zero=>intro y;rw[sB_zero];omega
      |succ n ih=>
        intro y
        have:=ih (y/16)
        have:=pc_le 4 y
        have p:=Nat.one_le_two_pow (n:=4*n)
        rw[sB_succ,Nat.pow_succ]
        have:1≤16 ^ n:=Nat.one_le_pow _ _ (by decide)
        omega
    have:=k 16 x
    omega
  omega
theorem mC (x:Nat):bits .and .u64 (IntKind.u64.wrap (((sB 16 x:Nat):Int)/16+(sB 16 x:Nat))) 1085102592571150095=((sC 8 x:Nat):Int):=by
  have hb:=sB_half x
  have e:rep 256 15 8=1085102592571150095:=by decide
  rw[show(((sB 16 x:Nat):Int)/16+(sB 16 x:Nat))=((sB 16 x/16+sB 16 x:Nat):Int) by omega,wu64 (by omega) (by omega),show(1085102592571150095:Int)=((1085102592571150095:Nat):Int) from rfl,uand_nat _ _ hb (by decide)]
  rw[← e]
  rfl
end Go.Proofs.YtmofdldplbplbaaDoor.Q
namespace Go.Proofs.YtmofdldplbplbaaDoor.Q
open Go Go.RowKit Go.Proofs.YtmofdldplbplbaaDoor.P Go.Proofs.YtmofdldplbplbaaDoorW.PrintWords Go.Proofs.YtmofdldplbplbaaDoorW.PrintMore
set_option linter.unusedVariables false
theorem s_has (n:Int) (l:List Int) (v w:Int) (v0:0≤v) (v1:v<l.length) (w0:0≤w) (w1:w≤63):Qci.f n l v w=some (tb (rd l v) w):=by
  unfold Qci.f
  rw[if_pos v0,if_pos v1,wu64 w0 (by omega),if_pos w0,bit_is w0 w1]
section
variable {n:Int} {l:List Int} (n1:1≤n) (n2:n≤62) (hn:(l.length:Int)=n)
include n1 n2 hn
theorem s_is_l1 (d:Nat):∀v:Int,0≤v→v≤n→n-v=d→Says (fun k=>Qak.l1 k v n l) (∀a,v≤a→a<n→∀b,0≤b→b<a→tb (rd l a) b=tb (rd l b) a):=by
  induction d with
  |zero=>
    intro v v0 v1 hd
    refine says_k ?_
    simp only[Qak.l1]
    exact says_neg (by omega) (says_true fun a _ _=>by omega)
  |succ d ih=>
    intro v v0 v1 hd
    have hv:v<n:=by omega
    have inner:∀(e:Nat) (w:Int),0≤w→w≤v→v-w=e→Says (fun k=>Qak.l2 k v w n l) ((∀b,w≤b→b<v→tb (rd l v) b=tb (rd l b) v)∧∀a,v+1≤a→a<n→∀b,0≤b→b<a→tb (rd l a) b=tb (rd l b) a):=by
      intro e
      induction e with
      |zero=>
        intro w w0 w1 he
        refine says_k ?_
        simp only[Qak.l2]
        refine says_neg (by omega) ?_
        rw[w64 (a:=v+1) (by omega) (by omega)]
        exact says_iff ⟨fun h=>h.2,fun h=>⟨fun b _ _=>by omega,h⟩⟩ (ih (v+1) (by omega) (by omega) (by omega))
      |succ e ihe=>
        intro w w0 w1 he
        refine says_k ?_
        simp only[Qak.l2]
        refine says_pos (by omega) ?_
        rw[s_has n l v w v0 (by omega) w0 (by omega),s_has n l w v w0 (by omega) v0 (by omega)]
        simp only[Option.bind_some]
        by_cases h:tb (rd l v) w=tb (rd l w) v
        · refine says_neg (by simp[h]) ?_
          rw[w64 (a:=w+1) (by omega) (by omega)]
          exact says_iff ⟨fun z=>⟨fun b b0 b1=>z.1 b (by omega) b1,z.2⟩,fun z=>⟨fun b b0 b1=>if hb:b=w then by rw[hb];exact h else z.1 b (by omega) b1,z.2⟩⟩ (ihe (w+1) (by omega) (by omega) (by omega))
        · exact says_pos (by simp[h]) (says_false fun z=>h (z.1 w (by omega) (by omega)))
    refine says_k ?_
    simp only[Qak.l1]
    exact says_pos hv (says_iff ⟨fun z=>⟨fun b b0 b1=>z v (by omega) hv b b0 b1,fun a a0 a1=>z a (by omega) a1⟩,fun z a a0 a1 b b0 b1=>if ha:a=v then by subst ha;exact z.1 b b0 b1 else z.2 a (by omega) a1 b b0 b1⟩ (inner v.toNat 0 (by omega) (by omega) (by omega)))
theorem s_is_l0 (d:Nat):∀v:Int,0≤v→v≤n→n-v=d→Says (fun k=>Qak.l0 k v n l) ((∀a,v≤a→a<n→(0≤rd l a∧rd l a<2 ^ n.toNat)∧tb (rd l a) a=false)∧∀a,0≤a→a<n→∀b,0≤b→b<a→tb (rd l a) b=tb (rd l b) a):=by
  have hp:=two_pow_le (n:=n) (by omega) n2
  induction d with
  |zero=>
    intro v v0 v1 hd
    refine says_k ?_
    simp only[Qak.l0]
    exact says_neg (by omega) (says_iff ⟨fun h=>h.2,fun h=>⟨fun a _ _=>by omega,h⟩⟩ (s_is_l1 n1 n2 hn n.toNat 0 (by omega) (by omega) (by omega)))
  |succ d ih=>
    intro v v0 v1 hd
    refine says_k ?_
    simp only[Qak.l0]
    rw[wu64 (a:=n) (by omega) (by omega),shl_one (by omega) n2,w64 (a:=2 ^ n.toNat-1) (by omega) (by omega)]
    refine says_pos (by omega) (says_pos v0 (says_pos (by omega) (says_pos (by omega) ?_)))
    rw[s_in,s_has n l v v v0 (by omega) v0 (by omega)]
    simp only[Option.bind_some]
    by_cases h:0≤rd l v∧rd l v≤2 ^ n.toNat-1
    · refine says_pos (decide_eq_true h) ?_
      by_cases ht:tb (rd l v) v=true
      · exact says_pos ht (says_false fun z=>by have:=(z.1 v (by omega) (by omega)).2;rw[ht]at this;cases this)
      · refine says_neg ht ?_
        rw[w64 (a:=v+1) (by omega) (by omega)]
        refine says_iff ⟨fun z=>⟨fun a a0 a1=>z.1 a (by omega) a1,z.2⟩,fun z=>⟨fun a a0 a1=>if ha:a=v then ?_ else z.1 a (by omega) a1,z.2⟩⟩ (ih (v+1) (by omega) (by omega) (by omega))
        subst ha
        exact⟨by omega,by simpa using ht⟩
    · exact says_neg (by simpa using h) (says_false fun z=>h (by have:=(z.1 v (by omega) (by omega)).1;omega))
theorem i_is_l1 (v:Int) (v0:0≤v) (v1:v<n) (x:Int) (y3 y4:Int) (y5:List Int) (P:Prop) (hc:Says (fun k=>Qax.l0 k n y5 y3 (wrap64 (y4+1)) n l) P) (d:Nat):∀w:Int,0≤w→w≤n→n-w=d→
    Says (fun k=>Qax.l1 k n v x y5 y3 y4 n w n l) ((∀b,w≤b→b<n→tb x b=tb (rd l b) v)∧P):=by
  induction d with
  |zero=>
    intro w w0 w1 hd
    refine says_k ?_
    simp only[Qax.l1]
    exact says_neg (by omega) (says_iff ⟨fun h=>h.2,fun h=>⟨fun b _ _=>by omega,h⟩⟩ hc)
  |succ d ih=>
    intro w w0 w1 hd
    refine says_k ?_
    simp only[Qax.l1]
    refine says_pos (by omega) (says_pos w0 (says_pos (by omega) (says_pos v0 ?_)))
    by_cases h:tb x w=tb (rd l w) v
    · refine says_pos ((bit_eq w0 (by omega) v0 (by omega)).2 h) ?_
      rw[w64 (a:=w+1) (by omega) (by omega)]
      exact says_iff ⟨fun z=>⟨fun b b0 b1=>z.1 b (by omega) b1,z.2⟩,fun z=>⟨fun b b0 b1=>if hb:b=w then by rw[hb];exact h else z.1 b (by omega) b1,z.2⟩⟩ (ih (w+1) (by omega) (by omega) (by omega))
    · exact says_neg (fun z=>h ((bit_eq w0 (by omega) v0 (by omega)).1 z)) (says_false fun z=>h (z.1 w (by omega) (by omega)))
theorem i_is_l0 (d:Nat):∀v:Int,0≤v→v≤n→n-v=d→Says (fun k=>Qax.l0 k n l n v n l) (∀a,v≤a→a<n→((0≤rd l a∧rd l a<2 ^ n.toNat)∧tb (rd l a) a=false)∧∀b,0≤b→b<n→tb (rd l a) b=tb (rd l b) a):=by
  induction d with
  |zero=>
    intro v v0 v1 hd
    refine says_k ?_
    simp only[Qax.l0]
    exact says_neg (by omega) (says_true fun a _ _=>by omega)
  |succ d ih=>
    intro v v0 v1 hd
    have hv:v<n:=by omega
    have ih:=ih (v+1) (by omega) (by omega) (by omega)
    have bad:∀(P:Prop),¬P→Says (fun k=>Qax.j2 k n v (rd l v) l n v true n l) P:=fun P hP=>by
      refine says_k ?_
      simp only[Qax.j2]
      exact says_pos trivial (says_false hP)
    refine says_k ?_
    simp only[Qax.l0]
    refine says_pos hv (says_pos v0 (says_pos (by omega) ?_))
    by_cases h0:rd l v<0
    · exact says_pos h0 (bad _ fun z=>by have:=(z v (by omega) hv).1.1;omega)
    · refine says_neg h0 (says_pos (by omega) ?_)
      rw[shl_one (by omega) n2]
      by_cases h1:rd l v≥2 ^ n.toNat
      · exact says_pos h1 (bad _ fun z=>by have:=(z v (by omega) hv).1.1;omega)
      · refine says_neg h1 ?_
        rw[bit_is v0 (by omega)]
        cases ht:tb (rd l v) v with
        |true=>exact bad _ fun z=>by have:=(z v (by omega) hv).1.2;rw[ht]at this;cases this
        |false=>
          refine says_k ?_
          simp only[Qax.j2]
          refine says_neg (by decide) ?_
          refine says_iff ?_ (i_is_l1 n1 n2 hn v v0 hv (rd l v) n v l _ (by rw[w64 (a:=v+1) (by omega) (by omega)];exact ih) n.toNat 0 (by omega) (by omega) (by omega))
          exact⟨fun z=>⟨(z v (by omega) hv).2,fun a a0 a1=>z a (by omega) a1⟩,fun z a a0 a1=>if ha:a=v then by subst ha;exact⟨⟨by omega,ht⟩,z.1⟩else z.2 a (by omega) a1⟩
end
theorem s_is (n:Int) (l:List Int):Says (fun k=>Qak.f k n l) (isG n l):=by
  have bad:¬isG n l→Says (fun k=>Qak.j0 k true n l) (isG n l):=fun h=>by
    refine says_k ?_
    simp only[Qak.j0]
    exact says_pos trivial (says_false h)
  unfold Qak.f
  rw[s_in]
  simp only[Option.bind_some]
  by_cases h1:1≤n∧n≤62
  · refine says_pos (decide_eq_true h1) ?_
    by_cases h2:(l.length:Int)=n
    · refine says_k ?_
      simp only[Qak.j0]
      refine says_neg (by simp[h2]) ?_
      refine says_iff ?_ (s_is_l0 h1.1 h1.2 h2 n.toNat 0 (by omega) (by omega) (by omega))
      constructor
      · exact fun⟨⟨_,_,_,r⟩,lo,sy⟩=>⟨fun a a0 a1=>⟨r a a0 a1,lo a a0 a1⟩,fun a a0 a1 b b0 b1=>sy a b a0 a1 b0 (by omega)⟩
      · intro⟨z,sy⟩
        refine⟨⟨h1.1,h1.2,h2,fun a a0 a1=>(z a a0 a1).1⟩,fun a a0 a1=>(z a a0 a1).2,fun a b a0 a1 b0 b1=>?_⟩
        rcases Int.lt_trichotomy a b with h|h|h
        · exact(sy b b0 b1 a a0 h).symm
        · rw[h]
        · exact sy a a0 a1 b b0 h
    · rw[show((l.length:Int)!=n)=true by simpa using h2]
      exact bad fun z=>h2 z.1.2.2.1
  · exact says_neg (by simpa using h1) (bad fun z=>h1 ⟨z.1.1,z.1.2.1⟩)
theorem i_is (n:Int) (l:List Int):Says (fun k=>Qax.f k n l) (isG n l):=by
  have bad:¬isG n l→Says (fun k=>Qax.j0 k n true n l) (isG n l):=fun h=>by
    refine says_k ?_
    simp only[Qax.j0]
    exact says_pos trivial (says_false h)
  unfold Qax.f
  by_cases h1:n<1
  · exact says_pos h1 (bad fun z=>by have:=z.1.1;omega)
  · refine says_neg h1 ?_
    by_cases h2:n>62
    · exact says_pos h2 (bad fun z=>by have:=z.1.2.1;omega)
    · refine says_neg h2 ?_
      by_cases h3:(l.length:Int)=n
      · refine says_k ?_
        simp only[Qax.j0]
        refine says_neg (by simp[h3]) ?_
        have:=i_is_l0 (n:=n) (l:=l) (by omega) (by omega) h3 n.toNat 0 (by omega) (by omega) (by omega)
        rw[h3]
        refine says_iff ?_ this
        constructor
        · exact fun⟨⟨_,_,_,r⟩,lo,sy⟩ a a0 a1=>⟨⟨r a a0 a1,lo a a0 a1⟩,fun b b0 b1=>sy a b a0 a1 b0 b1⟩
        · exact fun z=>⟨⟨by omega,by omega,h3,fun a a0 a1=>(z a a0 a1).1.1⟩,fun a a0 a1=>(z a a0 a1).1.2,fun a b a0 a1 b0 b1=>(z a a0 a1).2 b b0 b1⟩
      · rw[show((l.length:Int)!=n)=true by simpa using h3]
        exact bad fun z=>h3 z.1.2.2.1
end Go.Proofs.YtmofdldplbplbaaDoor.Q
namespace Go.Proofs.YtmofdldplbplbaaDoor.Q
open Go Go.RowKit Go.Proofs.YtmofdldplbplbaaDoor.P Go.Proofs.YtmofdldplbplbaaDoorW.PrintWords Go.Proofs.YtmofdldplbplbaaDoorW.PrintMore
def DrawsD (l:List Int) (g:Nat→Option (Int × List Int × Int × Int)):Prop:=∃n r a h,(0≤n∧n≤60)∧(1≤r.length∧r.length≤62)∧At l a∧Ev g (n,r,a,h)
theorem small_in {l:List Int} (hl:Codes l) {a:Int} (ha:At l a) (h:Int):∃n r a' h',(1≤n∧n≤8)∧(r.length:Int)=n∧At l a'∧Ev (fun k=>Qcy.f k l a h) (n,r,a',h'):=by
  obtain⟨x,a1,h1,e1,ha1,x0,x1,_⟩:=next_in hl ha h 8 (by omega)
  have x1:=x1 (by omega)
  obtain⟨r,a2,h2,hr,ha2,hE⟩:=drawof_in hl (n:=1+x) (by omega) (by omega) ha1 h1
  refine⟨1+x,r,a2,h2,by omega,hr,ha2,?_⟩
  unfold Qcy.f
  refine ev_bind0 e1 ?_
  rw[w64 (a:=1+x) (by omega) (by omega)]
  exact Ev.bind hE (Ev.now _)
theorem rest_in {l:List Int} (hl:Codes l) {a:Int} (ha:At l a) (h:Int):DrawsD l (fun k=>Qao.j0 k l a h):=by
  obtain⟨x,a1,h1,e1,ha1,x0,x1,_⟩:=next_in hl ha h 7 (by omega)
  have x1:=x1 (by omega)
  have loop:∀(d:Nat) (v:Int) (r:List Int) (a h:Int),0≤v→v≤1+x→1+x-v=d→(r.length:Int)=v→At l a→DrawsD l (fun k=>Qao.l0 k (1+x) v l a h (1+x) r):=by
    intro d
    induction d with
    |zero=>
      intro v r a h v0 v1 hd hr ha
      obtain⟨y,a2,h2,e2,ha2,_⟩:=next_in hl ha h 3 (by omega)
      by_cases z:y=0
      · refine⟨1+x,r.set 0 0,a2,h2,by omega,by simp;omega,ha2,ev_k ?_⟩
        simp only[Qao.l0]
        exact ev_neg (by omega) (ev_bind0 e2 (ev_pos z (ev_pos (by omega) (Ev.now _))))
      · refine⟨1+x,r,a2,h2,by omega,by omega,ha2,ev_k ?_⟩
        simp only[Qao.l0]
        exact ev_neg (by omega) (ev_bind0 e2 (ev_neg z (Ev.now _)))
    |succ d ih=>
      intro v r a h v0 v1 hd hr ha
      have hp:(2:Int) ^ (1+x).toNat≤4611686018427387904:=(two_pow_le (n:=1+x) (by omega) (by omega)).2
      obtain⟨y,a2,h2,e2,ha2,_⟩:=next_in hl ha h (2 ^ (1+x).toNat) (by omega)
      obtain⟨b,a3,h3,e3,ha3,_⟩:=next_in hl ha2 h2 2 (by omega)
      have ew:wrap64 (v+1)=v+1:=w64 (by omega) (by omega)
      have em:0≤Int.tmod (v+1) (1+x):=by
        rw[Int.tmod_eq_emod_of_nonneg (by omega)]
        exact Int.emod_nonneg _ (by omega)
      have em2:Int.tmod (v+1) (1+x)<1+x:=by
        rw[Int.tmod_eq_emod_of_nonneg (by omega)]
        exact Int.emod_lt_of_pos _ (by omega)
      have eu:IntKind.u64.wrap (Int.tmod (v+1) (1+x))=Int.tmod (v+1) (1+x):=wu64 em (by omega)
      have eu2:IntKind.u64.wrap (1+x)=1+x:=wu64 (by omega) (by omega)
      have es:shl .i64 1 (1+x)=2 ^ (1+x).toNat:=shl_one (by omega) (by omega)
      by_cases z:b=0
      · obtain⟨c,a4,h4,e4,ha4,_⟩:=next_in hl ha3 h3 (2 ^ (1+x).toNat) (by omega)
        obtain⟨n',r',a',h',hn,hr',ha',hE⟩:=ih (v+1) (r++[Go.bits .or .i64 (Go.bits .and .i64 y c) (shl .i64 1 (Int.tmod (v+1) (1+x)))]) a4 h4 (by omega) (by omega) (by omega) (by simp;omega) ha4
        refine⟨n',r',a',h',hn,hr',ha',ev_k ?_⟩
        simp only[Qao.l0]
        rw[eu2,es,ew,eu]
        exact ev_pos (by omega) (ev_pos (by omega) (ev_bind0 e2 (ev_bind0 e3 (ev_pos z (ev_bind0 e4 (ev_neg (by omega) (ev_pos em (ev_pos (by omega) hE))))))))
      · obtain⟨n',r',a',h',hn,hr',ha',hE⟩:=ih (v+1) (r++[Go.bits .or .i64 y (shl .i64 1 (Int.tmod (v+1) (1+x)))]) a3 h3 (by omega) (by omega) (by omega) (by simp;omega) ha3
        refine⟨n',r',a',h',hn,hr',ha',ev_k ?_⟩
        simp only[Qao.l0]
        rw[eu2,es,ew,eu]
        exact ev_pos (by omega) (ev_pos (by omega) (ev_bind0 e2 (ev_bind0 e3 (ev_neg z (ev_neg (by omega) (ev_pos em (ev_pos (by omega) hE)))))))
  obtain⟨n',r',a',h',hn,hr',ha',hE⟩:=loop (1+x).toNat 0 [] a1 h1 (by omega) (by omega) (by omega) (by simp) ha1
  refine⟨n',r',a',h',hn,hr',ha',ev_k ?_⟩
  simp only[Qao.j0]
  refine ev_bind0 e1 ?_
  rw[w64 (a:=1+x) (by omega) (by omega)]
  exact hE
theorem drawofD_in {l:List Int} (hl:Codes l) {a:Int} (ha:At l a) (h:Int):DrawsD l (fun k=>Qao.f k l a h):=by
  obtain⟨x,a1,h1,e1,ha1,_⟩:=next_in hl ha h 5 (by omega)
  by_cases z0:x=0
  · obtain⟨d,a2,h2,e2,ha2,hd⟩:=pick_in hl ha1 h1 [2,2,3] (by simp) (by simp)
    obtain⟨k,a3,h3,e3,ha3,hk⟩:=pick_in hl ha2 h2 [1,2,3] (by simp) (by simp)
    obtain⟨n,r,hn,hr,hs⟩:=bruijn_few (d:=d) (k:=k) (by simpa using hd) hk
    refine⟨n,r,a3,h3,hn,hr,ha3,?_⟩
    unfold Qao.f
    exact ev_bind0 e1 (ev_pos z0 (ev_bind0 e2 (ev_bind0 e3 (Ev.bind hs (ev_pos rfl (Ev.now _))))))
  by_cases z1:x=1
  · obtain⟨d,a2,h2,e2,ha2,hd⟩:=pick_in hl ha1 h1 [1,2,2,3] (by simp) (by simp)
    obtain⟨k,a3,h3,e3,ha3,hk⟩:=pick_in hl ha2 h2 [1,2,3] (by simp) (by simp)
    obtain⟨n,r,hn,hr,hs⟩:=kautz_few (d:=d) (k:=k) (by simpa using hd) hk
    refine⟨n,r,a3,h3,hn,hr,ha3,?_⟩
    unfold Qao.f
    exact ev_bind0 e1 (ev_neg z0 (ev_pos z1 (ev_bind0 e2 (ev_bind0 e3 (Ev.bind hs (ev_pos rfl (Ev.now _)))))))
  by_cases z2:x=2
  · obtain⟨n,r,a2,h2,hn,hr,ha2,hE⟩:=small_in hl ha1 h1
    obtain⟨b,hb,_⟩:=s_is n r
    by_cases z:b=true
    · refine⟨n,r,a2,h2,by omega,by omega,ha2,?_⟩
      have eo:Qbm.f r=some r:=by
        unfold Qbm.f
        simp only[Option.bind_some,List.nil_append]
        rw[if_pos (by simp;omega)]
      unfold Qao.f
      exact ev_bind0 e1 (ev_neg z0 (ev_neg z1 (ev_pos z2 (Ev.bind hE (Ev.bind hb (ev_pos z (ev_bind0 eo (Ev.now _))))))))
    · obtain⟨n',r',a',h',hn,hr',ha',hE'⟩:=rest_in hl ha2 h2
      refine⟨n',r',a',h',hn,hr',ha',?_⟩
      unfold Qao.f
      exact ev_bind0 e1 (ev_neg z0 (ev_neg z1 (ev_pos z2 (Ev.bind hE (Ev.bind hb (ev_neg z hE'))))))
  · obtain⟨n',r',a',h',hn,hr',ha',hE⟩:=rest_in hl ha1 h1
    refine⟨n',r',a',h',hn,hr',ha',?_⟩
    unfold Qao.f
    exact ev_bind0 e1 (ev_neg z0 (ev_neg z1 (ev_neg z2 hE)))
theorem drawD_in {l:List Int} (hl:Codes l) {a:Int} (ha:At l a) (h:Int):∃n r a' h',(0≤n∧n≤61)∧(1≤r.length∧r.length≤62)∧At l a'∧Ev (fun k=>Qbh.f k l a h) (n,r,a',h'):=by
  obtain⟨n,r,a1,h1,hn,hr,ha1,hE⟩:=drawofD_in hl ha h
  obtain⟨x,a2,h2,e2,ha2,_⟩:=next_in hl ha1 h1 40 (by omega)
  by_cases z0:x=0
  · refine⟨n+1,r,a2,h2,by omega,hr,ha2,?_⟩
    unfold Qbh.f
    refine Ev.bind hE (ev_bind0 e2 (ev_pos z0 ?_))
    rw[w64 (a:=n+1) (by omega) (by omega)]
    exact Ev.now _
  by_cases z1:x=1
  · obtain⟨y,a3,h3,e3,ha3,_⟩:=pick_in hl ha2 h2 [-1,shl .i64 1 n] (by simp) (by simp)
    refine⟨n,r.set 0 y,a3,h3,by omega,by simpa using hr,ha3,?_⟩
    unfold Qbh.f
    refine Ev.bind hE (ev_bind0 e2 (ev_neg z0 (ev_pos z1 ?_)))
    have eu:IntKind.u64.wrap n=n:=wu64 (by omega) (by omega)
    simp only[eu]
    exact ev_pos (by omega) (ev_bind0 e3 (ev_pos (by omega) (Ev.now _)))
  · refine⟨n,r,a2,h2,by omega,hr,ha2,?_⟩
    unfold Qbh.f
    exact Ev.bind hE (ev_bind0 e2 (ev_neg z0 (ev_neg z1 (Ev.now _))))
end Go.Proofs.YtmofdldplbplbaaDoor.Q
namespace Go.Proofs.YtmofdldplbplbaaDoor.Q
open Go Go.RowKit Go.Proofs.YtmofdldplbplbaaDoor.P Go.Proofs.YtmofdldplbplbaaDoorW.PrintWords Go.Proofs.YtmofdldplbplbaaDoorW.PrintMore
theorem mono_jumps:∀k,∀y0 y1 y2 y3 y4,LeO (Qap.l0 k y0 y1 y2 y3 y4) (Qap.l0 (k+1) y0 y1 y2 y3 y4)
  |0=>fun _ _ _ _ _ r h=>by simp[Qap.l0]at h
  |k+1=>by
    have ih:=mono_jumps k
    intro y0 y1 y2 y3 y4
    unfold Qap.l0
    repeat' first|(with_reducible exact ih _ _ _ _ _)|(with_reducible exact le_refl _)|(with_reducible exact le_none _)|(with_reducible refine le_ite ?_ ?_)|(with_reducible refine le_bind ?_ (fun _=>?_))
theorem mono_comp:∀k,∀y0 y1 y2 y3 y4,LeO (Qaj.l0 k y0 y1 y2 y3 y4) (Qaj.l0 (k+1) y0 y1 y2 y3 y4)
  |0=>fun _ _ _ _ _ r h=>by simp[Qaj.l0]at h
  |k+1=>by
    have ih:=mono_comp k
    intro y0 y1 y2 y3 y4
    unfold Qaj.l0
    repeat' first|(with_reducible exact ih _ _ _ _ _)|(with_reducible exact le_refl _)|(with_reducible exact le_none _)|(with_reducible refine le_ite ?_ ?_)|(with_reducible refine le_bind ?_ (fun _=>?_))
theorem mono_beside:∀k,∀y0 y1 y2 y3 y4 y5 y6,LeO (Qaw.l0 k y0 y1 y2 y3 y4 y5 y6) (Qaw.l0 (k+1) y0 y1 y2 y3 y4 y5 y6)
  |0=>fun _ _ _ _ _ _ _ r h=>by simp[Qaw.l0]at h
  |k+1=>by
    have ih:=mono_beside k
    intro y0 y1 y2 y3 y4 y5 y6
    unfold Qaw.l0
    repeat' first|(with_reducible exact ih _ _ _ _ _ _ _)|(with_reducible exact le_refl _)|(with_reducible exact le_none _)|(with_reducible refine le_ite ?_ ?_)|(with_reducible refine le_bind ?_ (fun _=>?_))
theorem mono_named:∀k,(∀y0 y1 y2,LeO (Qad.j0 k y0 y1 y2) (Qad.j0 (k+1) y0 y1 y2))∧(∀y0,LeO (Qad.j1 k y0) (Qad.j1 (k+1) y0))∧(∀y0 y1 y2 y3,LeO (Qad.l0 k y0 y1 y2 y3) (Qad.l0 (k+1) y0 y1 y2 y3))∧(∀y0 y1 y2 y3 y4,LeO (Qad.l1 k y0 y1 y2 y3 y4) (Qad.l1 (k+1) y0 y1 y2 y3 y4))∧(∀y0 y1 y2,LeO (Qad.l2 k y0 y1 y2) (Qad.l2 (k+1) y0 y1 y2))∧(∀y0 y1 y2,LeO (Qad.l3 k y0 y1 y2) (Qad.l3 (k+1) y0 y1 y2))∧(∀y0 y1 y2,LeO (Qad.l4 k y0 y1 y2) (Qad.l4 (k+1) y0 y1 y2))∧(∀y0 y1 y2 y3,LeO (Qad.l5 k y0 y1 y2 y3) (Qad.l5 (k+1) y0 y1 y2 y3))∧(∀y0 y1 y2 y3 y4,LeO (Qad.l6 k y0 y1 y2 y3 y4) (Qad.l6 (k+1) y0 y1 y2 y3 y4))
  |0=>⟨fun _ _ _ r h=>by simp[Qad.j0]at h,fun _ r h=>by simp[Qad.j1]at h,fun _ _ _ _ r h=>by simp[Qad.l0]at h,fun _ _ _ _ _ r h=>by simp[Qad.l1]at h,fun _ _ _ r h=>by simp[Qad.l2]at h,fun _ _ _ r h=>by simp[Qad.l3]at h,fun _ _ _ r h=>by simp[Qad.l4]at h,fun _ _ _ _ r h=>by simp[Qad.l5]at h,fun _ _ _ _ _ r h=>by simp[Qad.l6]at h⟩
  |k+1=>by
    obtain⟨ih_j0,ih_j1,ih_l0,ih_l1,ih_l2,ih_l3,ih_l4,ih_l5,ih_l6⟩:=mono_named k
    refine⟨?_,?_,?_,?_,?_,?_,?_,?_,?_⟩
    · intro y0 y1 y2
      unfold Qad.j0 Qap.f
      repeat' first|(with_reducible exact ih_j1 _)|(with_reducible exact ih_l2 _ _ _)|(with_reducible exact ih_l3 _ _ _)|(with_reducible exact ih_l4 _ _ _)|(with_reducible exact mono_jumps k _ _ _ _ _)|(with_reducible exact le_refl _)|(with_reducible exact le_none _)|(with_reducible refine le_ite ?_ ?_)|(with_reducible refine le_bind ?_ (fun _=>?_))
    · intro y0
      unfold Qad.j1
      repeat' first|(with_reducible exact ih_l0 _ _ _ _)|(with_reducible exact le_refl _)|(with_reducible exact le_none _)|(with_reducible refine le_ite ?_ ?_)|(with_reducible refine le_bind ?_ (fun _=>?_))
    · intro y0 y1 y2 y3
      unfold Qad.l0
      repeat' first|(with_reducible exact ih_l1 _ _ _ _ _)|(with_reducible exact le_refl _)|(with_reducible exact le_none _)|(with_reducible refine le_ite ?_ ?_)|(with_reducible refine le_bind ?_ (fun _=>?_))
    · intro y0 y1 y2 y3 y4
      unfold Qad.l1
      repeat' first|(with_reducible exact ih_l1 _ _ _ _ _)|(with_reducible exact ih_l0 _ _ _ _)|(with_reducible exact le_refl _)|(with_reducible exact le_none _)|(with_reducible refine le_ite ?_ ?_)|(with_reducible refine le_bind ?_ (fun _=>?_))
    · intro y0 y1 y2
      unfold Qad.l2
      repeat' first|(with_reducible exact ih_l2 _ _ _)|(with_reducible exact le_refl _)|(with_reducible exact le_none _)|(with_reducible refine le_ite ?_ ?_)|(with_reducible refine le_bind ?_ (fun _=>?_))
    · intro y0 y1 y2
      unfold Qad.l3
      repeat' first|(with_reducible exact ih_l3 _ _ _)|(with_reducible exact le_refl _)|(with_reducible exact le_none _)|(with_reducible refine le_ite ?_ ?_)|(with_reducible refine le_bind ?_ (fun _=>?_))
    · intro y0 y1 y2
      unfold Qad.l4
      repeat' first|(with_reducible exact ih_l5 _ _ _ _)|(with_reducible exact le_refl _)|(with_reducible exact le_none _)|(with_reducible refine le_ite ?_ ?_)|(with_reducible refine le_bind ?_ (fun _=>?_))
    · intro y0 y1 y2 y3
      unfold Qad.l5
      repeat' first|(with_reducible exact ih_l6 _ _ _ _ _)|(with_reducible exact ih_l4 _ _ _)|(with_reducible exact le_refl _)|(with_reducible exact le_none _)|(with_reducible refine le_ite ?_ ?_)|(with_reducible refine le_bind ?_ (fun _=>?_))
    · intro y0 y1 y2 y3 y4
      unfold Qad.l6
      repeat' first|(with_reducible exact ih_l6 _ _ _ _ _)|(with_reducible exact ih_l5 _ _ _ _)|(with_reducible exact le_refl _)|(with_reducible exact le_none _)|(with_reducible refine le_ite ?_ ?_)|(with_reducible refine le_bind ?_ (fun _=>?_))
theorem named_mono (b:ByteArray):∀k,LeO (Qad.f k b) (Qad.f (k+1) b):=by
  intro k
  unfold Qad.f Qaj.f Qaw.f
  repeat' first|(with_reducible exact mono_comp k _ _ _ _ _)|(with_reducible exact mono_beside k _ _ _ _ _ _ _)|(with_reducible exact(mono_named k).1 _ _ _)|(with_reducible exact le_refl _)|(with_reducible exact le_none _)|(with_reducible refine le_ite ?_ ?_)|(with_reducible refine le_bind ?_ (fun _=>?_))
def namedOk (b:ByteArray):Bool:=match Qad.f 400 b with
  |some q=>decide (1≤q.1)&&decide (q.1≤62)&&decide ((q.2.1.length:Int)=q.1)
  |none=>false
def namesOk:Bool:=match Qdc.f with
  |some L=>L.all namedOk&&decide (L.length=15)
  |none=>false
set_option maxRecDepth 1000000
theorem names_ok:namesOk=true:=by decide +kernel
theorem names_in:∃L:List ByteArray,Qdc.f=some L∧L.length=15∧∀i:Int,0≤i→i<15→∃n r b,(1≤n∧n≤62)∧(r.length:Int)=n∧Ev (fun k=>Qad.f k (rdOf ByteArray.empty L i)) (n,r,b):=by
  have h:=names_ok
  unfold namesOk at h
  split at h
  · rename_i L e
    rw[Bool.and_eq_true,decide_eq_true_eq]at h
    refine⟨L,e,h.2,fun i i0 i1=>?_⟩
    have hi:i.toNat<L.length:=by omega
    have hm:rdOf ByteArray.empty L i ∈ L:=by
      have:rdOf ByteArray.empty L i=L[i.toNat]:=by simp[rdOf,List.getD_eq_getElem?_getD,List.getElem?_eq_getElem hi]
      rw[this]
      exact List.getElem_mem _
    have ok:=List.all_eq_true.1 h.1 _ hm
    unfold namedOk at ok
    split at ok
    · rename_i q eq
      simp only[Bool.and_eq_true,decide_eq_true_eq]at ok
      exact⟨q.1,q.2.1,q.2.2,ok.1,ok.2,Ev.of (named_mono _) eq⟩
    · cases ok
  · cases h
end Go.Proofs.YtmofdldplbplbaaDoor.Q
namespace Go.Proofs.YtmofdldplbplbaaDoor.Q
open Go Go.RowKit Go.Proofs.YtmofdldplbplbaaDoor.P Go.Proofs.YtmofdldplbplbaaDoorW.PrintWords Go.Proofs.YtmofdldplbplbaaDoorW.PrintMore
theorem own_self {r:List Int} (h:r.length≤1048576):Qbm.f r=some r:=by
  unfold Qbm.f
  simp only[Option.bind_some,List.nil_append]
  rw[if_pos (by simp;omega)]
theorem empty_some {n:Int} (n0:0≤n) (n2:n≤62):Qau.f n=some (n,List.replicate n.toNat 0):=by
  unfold Qau.f
  rw[if_pos n0,if_pos (by omega)]
theorem rd_in {p:List Int} {P:Int→Prop} (h:∀x ∈ p,P x) {i:Int} (i0:0≤i) (i1:i<p.length):P (rd p i):=by
  have hi:i.toNat<p.length:=by omega
  have:rd p i=p[i.toNat]:=by simp[rd,List.getD_eq_getElem?_getD,List.getElem?_eq_getElem hi]
  rw[this]
  exact h _ (List.getElem_mem _)
theorem tmod_in {a n:Int} (a0:0≤a) (n1:1≤n):0≤Int.tmod a n∧Int.tmod a n<n:=by
  rw[Int.tmod_eq_emod_of_nonneg a0]
  exact⟨Int.emod_nonneg _ (by omega),Int.emod_lt_of_pos _ (by omega)⟩
theorem jumps_in {n:Int} (n1:1≤n) (n2:n≤62) (js:List Int) (hj:∀x ∈ js,0≤x∧x≤1000) (hl:js.length≤1000):∃r,(r.length:Int)=n∧Ev (fun k=>Qap.f k n js) (n,r):=by
  have loop:∀(d:Nat) (i:Int) (r:List Int),0≤i→n-i=d→(r.length:Int)=n→∃r',(r'.length:Int)=n∧Ev (fun k=>Qap.l0 k n js i n r) (n,r'):=by
    intro d
    induction d with
    |zero=>
      intro i r i0 hd hr
      refine⟨r,hr,ev_k ?_⟩
      simp only[Qap.l0]
      exact ev_neg (by omega) (Ev.now _)
    |succ d ih=>
      intro i r i0 hd hr
      have t1:=tmod_in (a:=i+1) (n:=n) (by omega) n1
      obtain⟨p,hp,hpl⟩:=put_in n (r:=r) i0 (by omega) t1.1 (by omega) (by omega)
      have e1:wrap64 (i+1)=i+1:=w64 (by omega) (by omega)
      by_cases z:(js.length:Int)>0
      · have t2:=tmod_in (a:=i) (n:=(js.length:Int)) i0 (by omega)
        have hx:=rd_in hj t2.1 t2.2
        have e2:wrap64 (i+rd js (Int.tmod i (js.length:Int)))=i+rd js (Int.tmod i (js.length:Int)):=w64 (by omega) (by omega)
        have t3:=tmod_in (a:=i+rd js (Int.tmod i (js.length:Int))) (n:=n) (by omega) n1
        obtain⟨p2,hp2,hpl2⟩:=put_in n (r:=p) i0 (by omega) t3.1 (by omega) (by omega)
        obtain⟨r',hr',hE⟩:=ih (i+1) p2 (by omega) (by omega) (by omega)
        refine⟨r',hr',ev_k ?_⟩
        simp only[Qap.l0]
        rw[e1,e2]
        exact ev_pos (by omega) (ev_neg (by omega) (ev_bind0 hp (ev_pos z (ev_neg (by omega) (ev_pos t2.1 (ev_pos t2.2 (ev_bind0 hp2 hE)))))))
      · obtain⟨r',hr',hE⟩:=ih (i+1) p (by omega) (by omega) (by omega)
        refine⟨r',hr',ev_k ?_⟩
        simp only[Qap.l0]
        rw[e1]
        exact ev_pos (by omega) (ev_neg (by omega) (ev_bind0 hp (ev_neg z hE)))
  obtain⟨r,hr,hE⟩:=loop n.toNat 0 (List.replicate n.toNat 0) (by omega) (by omega) (by simp;omega)
  refine⟨r,hr,?_⟩
  unfold Qap.f
  exact ev_bind0 (empty_some (by omega) n2) hE
theorem order_in {l:List Int} (hl:Codes l) {n:Int} (n1:1≤n) (n2:n≤62) {a:Int} (ha:At l a) (h:Int):∃p a' h',(p.length:Int)=n∧(∀x ∈ p,0≤x∧x<n)∧At l a'∧Ev (fun k=>Qby.f k l a h n) (p,a',h'):=by
  have loop:∀(d:Nat) (i:Int) (p:List Int) (a h:Int),0≤i→n-i=d→(p.length:Int)=i→(∀x ∈ p,0≤x∧x<n)→At l a→∃p' a' h',(p'.length:Int)=n∧(∀x ∈ p',0≤x∧x<n)∧At l a'∧Ev (fun k=>Qby.l0 k n p i l a h) (p',a',h'):=by
    intro d
    induction d with
    |zero=>
      intro i p a h i0 hd hp hx ha
      refine⟨p,a,h,by omega,hx,ha,ev_k ?_⟩
      simp only[Qby.l0]
      exact ev_neg (by omega) (Ev.now _)
    |succ d ih=>
      intro i p a h i0 hd hp hx ha
      have e1:wrap64 (i+1)=i+1:=w64 (by omega) (by omega)
      obtain⟨x,a2,h2,e2,ha2,x0,x1,_⟩:=next_in hl ha h (i+1) (by omega)
      have x1:=x1 (by omega)
      have eo:Qbm.f (p.take x.toNat)=some (p.take x.toNat):=own_self (by rw[List.length_take];omega)
      obtain⟨p',a',h',hp',hx',ha',hE⟩:=ih (i+1) ((p.take x.toNat++[i])++p.drop x.toNat) a2 h2 (by omega) (by omega) (by simp;omega) (fun y hy=>by
        simp only[List.mem_append,List.mem_singleton]at hy
        rcases hy with(hy|rfl)|hy
        · exact hx y (List.mem_of_mem_take hy)
        · omega
        · exact hx y (List.mem_of_mem_drop hy)) ha2
      refine⟨p',a',h',hp',hx',ha',ev_k ?_⟩
      simp only[Qby.l0]
      rw[e1]
      refine ev_pos (by omega) (ev_bind0 e2 (ev_pos x0 (ev_pos (by omega) (ev_bind0 eo ?_))))
      simp only[Option.bind_some]
      exact ev_pos (by simp;omega) (ev_pos (by simp;omega) hE)
  obtain⟨p,a',h',hp,hx,ha',hE⟩:=loop n.toNat 0 [] a h (by omega) (by omega) (by simp) (by simp) ha
  refine⟨p,a',h',hp,hx,ha',?_⟩
  unfold Qby.f
  exact hE
theorem renamed_in {n:Int} (n1:1≤n) (n2:n≤62) {r p:List Int} (hr:(r.length:Int)=n) (hp:(p.length:Int)=n) (hx:∀x ∈ p,0≤x∧x<n):∃r',(r'.length:Int)=n∧Ev (fun k=>Qaz.f k n r p) (n,r'):=by
  have outer:∀(d:Nat) (v:Int) (q:List Int),0≤v→n-v=d→(q.length:Int)=n→∃r',(r'.length:Int)=n∧Ev (fun k=>Qaz.l0 k p v n r n q) (n,r'):=by
    intro d
    induction d with
    |zero=>
      intro v q v0 hd hq
      refine⟨q,hq,ev_k ?_⟩
      simp only[Qaz.l0]
      exact ev_neg (by omega) (Ev.now _)
    |succ d ih=>
      intro v q v0 hd hq
      have inner:∀(e:Nat) (w:Int) (q:List Int),0≤w→v-w=e→(q.length:Int)=n→∃r',(r'.length:Int)=n∧Ev (fun k=>Qaz.l1 k p v w n r n q) (n,r'):=by
        intro e
        induction e with
        |zero=>
          intro w q w0 he hq
          obtain⟨r',hr',hE⟩:=ih (v+1) q (by omega) (by omega) hq
          refine⟨r',hr',ev_k ?_⟩
          simp only[Qaz.l1]
          rw[w64 (a:=v+1) (by omega) (by omega)]
          exact ev_neg (by omega) hE
        |succ e ihe=>
          intro w q w0 he hq
          have hh:=s_has n r v w v0 (by omega) w0 (by omega)
          by_cases z:tb (rd r v) w=true
          · have pv:=rd_in hx v0 (by omega)
            have pw:=rd_in hx w0 (by omega)
            obtain⟨q2,hq2,hql⟩:=put_in n (r:=q) pv.1 (by omega) pw.1 (by omega) (by omega)
            obtain⟨r',hr',hE⟩:=ihe (w+1) q2 (by omega) (by omega) (by omega)
            refine⟨r',hr',ev_k ?_⟩
            simp only[Qaz.l1]
            rw[w64 (a:=w+1) (by omega) (by omega)]
            exact ev_pos (by omega) (ev_bind0 hh (ev_pos z (ev_pos v0 (ev_pos (by omega) (ev_pos w0 (ev_pos (by omega) (ev_bind0 hq2 hE)))))))
          · obtain⟨r',hr',hE⟩:=ihe (w+1) q (by omega) (by omega) hq
            refine⟨r',hr',ev_k ?_⟩
            simp only[Qaz.l1]
            rw[w64 (a:=w+1) (by omega) (by omega)]
            exact ev_pos (by omega) (ev_bind0 hh (ev_neg z hE))
      obtain⟨r',hr',hE⟩:=inner v.toNat 0 q (by omega) (by omega) hq
      refine⟨r',hr',ev_k ?_⟩
      simp only[Qaz.l0]
      exact ev_pos (by omega) hE
  obtain⟨r',hr',hE⟩:=outer n.toNat 0 (List.replicate n.toNat 0) (by omega) (by omega) (by simp;omega)
  refine⟨r',hr',?_⟩
  unfold Qaz.f
  exact ev_bind0 (empty_some (by omega) n2) hE
def DrawsG (l:List Int) (g:Nat→Option (Int × List Int × Int × Int)):Prop:=∃n r a h,(1≤n∧n≤62)∧(r.length:Int)=n∧At l a∧Ev g (n,r,a,h)
theorem turn_in {l:List Int} (hl:Codes l) {n:Int} (n1:1≤n) (n2:n≤62) {r:List Int} (hr:(r.length:Int)=n) {a:Int} (ha:At l a) (h:Int):DrawsG l (fun k=>Qbj.j0 k l a h n r):=by
  obtain⟨x,a1,h1,e1,ha1,_⟩:=next_in hl ha h 2 (by omega)
  by_cases z:x=0
  · obtain⟨p,a2,h2,hp,hx,ha2,hE⟩:=order_in hl n1 n2 ha1 h1
    obtain⟨r',hr',hE'⟩:=renamed_in n1 n2 hr hp hx
    refine⟨n,r',a2,h2,⟨n1,n2⟩,hr',ha2,ev_k ?_⟩
    simp only[Qbj.j0]
    exact ev_bind0 e1 (ev_pos z (Ev.bind hE (Ev.bind hE' (Ev.now _))))
  · refine⟨n,r,a1,h1,⟨n1,n2⟩,hr,ha1,ev_k ?_⟩
    simp only[Qbj.j0]
    exact ev_bind0 e1 (ev_neg z (Ev.now _))
theorem regular_in {l:List Int} (hl:Codes l) {a:Int} (ha:At l a) (h:Int):DrawsG l (fun k=>Qbj.f k l a h):=by
  obtain⟨L,eL,hL,hN⟩:=names_in
  obtain⟨y,a1,h1,e1,ha1,hy⟩:=pick_in hl ha h [6,13,15] (by simp) (by simp)
  simp only[List.mem_cons,List.not_mem_nil,or_false]at hy
  obtain⟨i,a2,h2,e2,ha2,i0,i1,_⟩:=next_in hl ha1 h1 y (by omega)
  have i1:=i1 (by omega)
  obtain⟨n,r,b,hn,hr,hE⟩:=hN i i0 (by omega)
  obtain⟨c,a3,h3,e3,ha3,_⟩:=next_in hl ha2 h2 3 (by omega)
  by_cases zc:c=0
  · obtain⟨m,a4,h4,e4,ha4,m0,m1,_⟩:=next_in hl ha3 h3 14 (by omega)
    have m1:=m1 (by omega)
    obtain⟨r1,hr1,hE1⟩:=jumps_in (n:=3+m) (by omega) (by omega) [] (by simp) (by simp)
    obtain⟨q,a5,h5,e5,ha5,_⟩:=next_in hl ha4 h4 2 (by omega)
    have em:wrap64 (3+m)=3+m:=w64 (by omega) (by omega)
    have em1:wrap64 (3+m-1)=3+m-1:=w64 (by omega) (by omega)
    by_cases zq:q=0
    · obtain⟨j,a6,h6,e6,ha6,j0,j1,_⟩:=next_in hl ha5 h5 (3+m-1) (by omega)
      have j1:=j1 (by omega)
      have ej:wrap64 (1+j)=1+j:=w64 (by omega) (by omega)
      obtain⟨r2,hr2,hE2⟩:=jumps_in (n:=3+m) (by omega) (by omega) [1+j] (by simp;omega) (by simp)
      obtain⟨n',r',a',h',hn',hr',ha',hE'⟩:=turn_in hl (n:=3+m) (by omega) (by omega) hr2 ha6 h6
      refine⟨n',r',a',h',hn',hr',ha',?_⟩
      unfold Qbj.f
      rw[eL]
      simp only[Option.bind_some]
      refine ev_bind0 e1 (ev_bind0 e2 (ev_pos i0 (ev_pos (by omega) (Ev.bind hE (ev_bind0 e3 (ev_pos zc (ev_bind0 e4 ?_)))))))
      simp only[em,em1]
      refine Ev.bind hE1 (ev_bind0 e5 (ev_pos zq (ev_bind0 e6 ?_)))
      simp only[ej]
      exact Ev.bind hE2 hE'
    · obtain⟨n',r',a',h',hn',hr',ha',hE'⟩:=turn_in hl (n:=3+m) (by omega) (by omega) hr1 ha5 h5
      refine⟨n',r',a',h',hn',hr',ha',?_⟩
      unfold Qbj.f
      rw[eL]
      simp only[Option.bind_some]
      refine ev_bind0 e1 (ev_bind0 e2 (ev_pos i0 (ev_pos (by omega) (Ev.bind hE (ev_bind0 e3 (ev_pos zc (ev_bind0 e4 ?_)))))))
      simp only[em,em1]
      exact Ev.bind hE1 (ev_bind0 e5 (ev_neg zq hE'))
  · obtain⟨n',r',a',h',hn',hr',ha',hE'⟩:=turn_in hl hn.1 hn.2 hr ha3 h3
    refine⟨n',r',a',h',hn',hr',ha',?_⟩
    unfold Qbj.f
    rw[eL]
    simp only[Option.bind_some]
    exact ev_bind0 e1 (ev_bind0 e2 (ev_pos i0 (ev_pos (by omega) (Ev.bind hE (ev_bind0 e3 (ev_neg zc hE'))))))
theorem drawG_in {l:List Int} (hl:Codes l) {a:Int} (ha:At l a) (h:Int):DrawsG l (fun k=>Qde.f k l a h):=by
  obtain⟨x,a1,h1,e1,ha1,_⟩:=next_in hl ha h 4 (by omega)
  by_cases z0:x=0
  · obtain⟨n,r,a',h',hn,hr,ha',hE⟩:=regular_in hl ha1 h1
    refine⟨n,r,a',h',hn,hr,ha',?_⟩
    unfold Qde.f
    exact ev_bind0 e1 (ev_pos z0 (Ev.bind hE (Ev.now _)))
  by_cases z1:x=1
  · obtain⟨n,a2,h2,e2,ha2,hn⟩:=pick_in hl ha1 h1 [1,10,20,40,61,62] (by simp) (by simp)
    simp only[List.mem_cons,List.not_mem_nil,or_false]at hn
    obtain⟨r,a',h',hr,ha',hE⟩:=drawof_in hl (n:=n) (by omega) (by omega) ha2 h2
    refine⟨n,r,a',h',by omega,hr,ha',?_⟩
    unfold Qde.f
    exact ev_bind0 e1 (ev_neg z0 (ev_pos z1 (ev_bind0 e2 (Ev.bind hE (Ev.now _)))))
  · obtain⟨y,a2,h2,e2,ha2,y0,y1,_⟩:=next_in hl ha1 h1 14 (by omega)
    have y1:=y1 (by omega)
    obtain⟨r,a',h',hr,ha',hE⟩:=drawof_in hl (n:=1+y) (by omega) (by omega) ha2 h2
    refine⟨1+y,r,a',h',by omega,hr,ha',?_⟩
    unfold Qde.f
    refine ev_bind0 e1 (ev_neg z0 (ev_neg z1 (ev_bind0 e2 ?_)))
    simp only[w64 (a:=1+y) (by omega) (by omega)]
    exact Ev.bind hE (Ev.now _)
theorem bad_in {l:List Int} (hl:Codes l) {a:Int} (ha:At l a) (h:Int) {n:Int} (n1:1≤n) (n2:n≤62) {r:List Int} (hr:(r.length:Int)=n):∃n' r' a' h',r'.length≤63∧At l a'∧Qcj.f l a h n r=some (n',r',a',h'):=by
  unfold Qcj.f
  rw[own_self (r:=r) (by omega)]
  simp only[Option.bind_some]
  obtain⟨x,a1,h1,e1,ha1,_⟩:=next_in hl ha h 50 (by omega)
  rw[e1]
  simp only[Option.bind_some]
  by_cases z0:x=0
  · obtain⟨y,a2,h2,e2,ha2,_⟩:=pick_in hl ha1 h1 [0,63,-1,wrap64 (n+1)] (by simp) (by simp)
    rw[if_pos z0,e2]
    exact⟨_,_,_,_,by omega,ha2,rfl⟩
  rw[if_neg z0]
  by_cases z1:x=1
  · obtain⟨y,a2,h2,e2,ha2,y0,y1,_⟩:=next_in hl ha1 h1 n (by omega)
    have y1:=y1 (by omega)
    obtain⟨c,a3,h3,e3,ha3,_⟩:=pick_in hl ha2 h2 [-1,1,2,4611686018427387904,shl .i64 1 (IntKind.u64.wrap n)] (by simp) (by simp)
    rw[if_pos z1,e2]
    simp only[Option.bind_some]
    rw[if_pos (by rw[wu64 (by omega) (by omega)];omega),e3]
    simp only[Option.bind_some]
    rw[if_pos y0,if_pos (by omega)]
    exact⟨_,_,_,_,by simp;omega,ha3,rfl⟩
  rw[if_neg z1]
  by_cases z2:x=2
  · rw[if_pos z2,if_pos (by omega)]
    exact⟨_,_,_,_,by simp;omega,ha1,rfl⟩
  · rw[if_neg z2]
    exact⟨_,_,_,_,by omega,ha1,rfl⟩
theorem spoil_in {l:List Int} (hl:Codes l) {a:Int} (ha:At l a) (h:Int):∃n r a' h',r.length≤63∧At l a'∧Ev (fun k=>Qdd.f k l a h) (n,r,a',h'):=by
  obtain⟨n,r,a1,h1,hn,hr,ha1,hE⟩:=drawG_in hl ha h
  obtain⟨n',r',a',h',hr',ha',e⟩:=bad_in hl ha1 h1 hn.1 hn.2 hr
  refine⟨n',r',a',h',hr',ha',?_⟩
  unfold Qdd.f
  exact Ev.bind hE (ev_bind0 e (Ev.now _))
end Go.Proofs.YtmofdldplbplbaaDoor.Q
namespace Go.Proofs.YtmofdldplbplbaaDoor.Q
open Go Go.RowKit Go.Proofs.YtmofdldplbplbaaDoor.P Go.Proofs.YtmofdldplbplbaaDoorW.PrintWords Go.Proofs.YtmofdldplbplbaaDoorW.PrintMore
theorem like_self (r:List Int) (hr:r.length≤1048576):Ev (fun k=>Qbt.f k r r) true:=by
  have loop:∀(d:Nat) (i:Int),0≤i→i+d=r.length→Ev (fun k=>Qbt.l0 k r r i) true:=by
    intro d
    induction d with
    |zero=>
      intro i i0 hi
      refine ev_k ?_
      simp only[Qbt.l0]
      exact ev_neg (by omega) (Ev.now _)
    |succ d ih=>
      intro i i0 hi
      refine ev_k ?_
      simp only[Qbt.l0]
      rw[w64 (a:=i+1) (by omega) (by omega)]
      exact ev_pos (by omega) (ev_pos i0 (ev_pos (by omega) (ev_pos trivial (ih (i+1) (by omega) (by omega)))))
  unfold Qbt.f
  exact ev_pos rfl (loop r.length 0 (by omega) (by omega))
theorem dig_self (m:Int) (r:List Int) (hr:r.length≤1048576):Ev (fun k=>Qcf.f k m r m r) true:=by
  unfold Qcf.f
  exact ev_pos rfl (Ev.bind (like_self r hr) (Ev.now _))
theorem rows_self (g:List (List Int)) (hg:g.length≤1048576) (hx:∀x ∈ g,x.length≤1048576):Ev (fun k=>Qcq.f k g g) true:=by
  have loop:∀(d:Nat) (i:Int),0≤i→i+d=g.length→Ev (fun k=>Qcq.l0 k g g i) true:=by
    intro d
    induction d with
    |zero=>
      intro i i0 hi
      refine ev_k ?_
      simp only[Qcq.l0]
      exact ev_neg (by omega) (Ev.now _)
    |succ d ih=>
      intro i i0 hi
      have hm:(rd_L2 g i).length≤1048576:=by
        have hi':i.toNat<g.length:=by omega
        have:rd_L2 g i=g[i.toNat]:=by simp[rd_L2,List.getD_eq_getElem?_getD,List.getElem?_eq_getElem hi']
        rw[this]
        exact hx _ (List.getElem_mem _)
      refine ev_k ?_
      simp only[Qcq.l0]
      rw[w64 (a:=i+1) (by omega) (by omega)]
      exact ev_pos (by omega) (ev_pos i0 (ev_pos (by omega) (Ev.bind (like_self _ hm) (ev_pos rfl (ih (i+1) (by omega) (by omega))))))
  unfold Qcq.f
  exact ev_pos rfl (loop g.length 0 (by omega) (by omega))
end Go.Proofs.YtmofdldplbplbaaDoor.Q
namespace Go.Proofs.YtmofdldplbplbaaDoor.Q
open Go Go.RowKit Go.Proofs.YtmofdldplbplbaaDoorW.PrintWords Go.Proofs.YtmofdldplbplbaaDoorW.PrintMore
def Mx (n:Int) (l:List Int) (P:Int→Int→Prop):Prop:=(l.length:Int)=n∧∀v,0≤v→v<n→(0≤rd l v∧rd l v<2 ^ n.toNat)∧∀w,0≤w→w<n→(tb (rd l v) w=true↔P v w)
theorem Mx.imp {n:Int} {l:List Int} {P Q:Int→Int→Prop} (h:Mx n l P) (e:∀v w,0≤v→v<n→0≤w→w<n→(P v w↔Q v w)):Mx n l Q:=
  ⟨h.1,fun v v0 v1=>⟨(h.2 v v0 v1).1,fun w w0 w1=>((h.2 v v0 v1).2 w w0 w1).trans (e v w v0 v1 w0 w1)⟩⟩
theorem rd_ext {a b:List Int} (hl:a.length=b.length) (h:∀v:Int,0≤v→v<a.length→rd a v=rd b v):a=b:=by
  refine List.ext_getElem hl fun i h1 h2=>?_
  have:=h i (by omega) (by omega)
  simpa[rd,List.getD_eq_getElem?_getD,h1,h2] using this
theorem Mx.eq {n:Int} {a b:List Int} {P:Int→Int→Prop} (ha:Mx n a P) (hb:Mx n b P) (n0:0≤n):a=b:=by
  refine rd_ext (by have:=ha.1;have:=hb.1;omega) fun v v0 v1=>?_
  have v1:v<n:=by have:=ha.1;omega
  obtain⟨⟨a0,a1⟩,a2⟩:=ha.2 v v0 v1
  obtain⟨⟨b0,b1⟩,b2⟩:=hb.2 v v0 v1
  exact tb_ext a0 a1 b0 b1 n0 fun i i0 i1=>Bool.eq_iff_iff.2 ((a2 i i0 i1).trans (b2 i i0 i1).symm)
theorem Mx.zero (n:Int) (n0:0≤n):Mx n (List.replicate n.toNat 0) (fun _ _=>False):=by
  refine⟨by simp;omega,fun v v0 v1=>?_⟩
  have e:rd (List.replicate n.toNat 0) v=0:=by
    have:v.toNat<n.toNat:=by omega
    simp[rd,List.getD_eq_getElem?_getD,this]
  rw[e]
  have p:(0:Int)<2 ^ n.toNat:=Int.pow_pos (by decide)
  refine⟨⟨by omega,p⟩,fun w w0 w1=>?_⟩
  simp[tb]
theorem Mx.rows {n:Int} {l:List Int} {P:Int→Int→Prop} (h:Mx n l P) (n1:1≤n) (n2:n≤62):rows n l:=⟨n1,n2,h.1,fun v v0 v1=>(h.2 v v0 v1).1⟩
theorem mx_of {n:Int} {l:List Int} (h:rows n l):Mx n l (fun v w=>tb (rd l v) w=true):=⟨h.2.2.1,fun v v0 v1=>⟨h.2.2.2 v v0 v1,fun _ _ _=>Iff.rfl⟩⟩
theorem rd_set {l:List Int} {i j:Int} (x:Int) (i0:0≤i) (i1:i<l.length) (j0:0≤j):rd (l.set i.toNat x) j=if j=i then x else rd l j:=by
  simp only[rd,List.getD_eq_getElem?_getD,List.getElem?_set]
  by_cases h:j=i
  · subst h
    rw[if_pos rfl,if_pos rfl,if_pos (by omega)]
    rfl
  · rw[if_neg h,if_neg (by omega)]
theorem or_one {n x j:Int} (n2:n≤62) (x0:0≤x) (x1:x<2 ^ n.toNat) (j0:0≤j) (j1:j<n):(0≤bits .or .i64 x (shl .i64 1 j)∧bits .or .i64 x (shl .i64 1 j)<2 ^ n.toNat)∧∀w,0≤w→(tb (bits .or .i64 x (shl .i64 1 j)) w=true↔tb x w=true∨w=j):=by
  have e:((2:Int) ^ n.toNat)=((2 ^ n.toNat:Nat):Int):=by simp
  have p:2 ^ n.toNat≤2 ^ 62:=Nat.pow_le_pow_right (by decide) (by omega)
  have q:2 ^ j.toNat<2 ^ n.toNat:=Nat.pow_lt_pow_right (by decide) (by omega)
  rw[e]at x1 ⊢
  obtain⟨y,rfl⟩:=Int.eq_ofNat_of_zero_le x0
  rw[shl_one j0 (by omega),show((2:Int) ^ j.toNat)=((2 ^ j.toNat:Nat):Int) by simp,or_nat y (2 ^ j.toNat) (by omega) (by omega)]
  refine⟨⟨by omega,?_⟩,fun w w0=>?_⟩
  · have:=Nat.or_lt_two_pow (show y<2 ^ n.toNat by omega) q
    omega
  · obtain⟨w,rfl⟩:=Int.eq_ofNat_of_zero_le w0
    rw[tb_nat,tb_nat,Nat.testBit_or,Nat.testBit_two_pow]
    simp only[Bool.or_eq_true,decide_eq_true_eq]
    refine or_congr Iff.rfl ?_
    omega
theorem Mx.or {n:Int} {l:List Int} {P:Int→Int→Prop} (h:Mx n l P) (n2:n≤62) {i j:Int} (i0:0≤i) (i1:i<n) (j0:0≤j) (j1:j<n):Mx n (l.set i.toNat (bits .or .i64 (rd l i) (shl .i64 1 j))) (fun v w=>P v w∨(v=i∧w=j)):=by
  refine⟨by simpa using h.1,fun v v0 v1=>?_⟩
  rw[rd_set _ i0 (by have:=h.1;omega) v0]
  obtain⟨⟨a0,a1⟩,a2⟩:=h.2 v v0 v1
  by_cases hv:v=i
  · rw[if_pos hv]
    subst hv
    obtain⟨b,b2⟩:=or_one n2 a0 a1 j0 j1
    exact⟨b,fun w w0 w1=>(b2 w w0).trans (or_congr (a2 w w0 w1) (by simp))⟩
  · rw[if_neg hv]
    exact⟨⟨a0,a1⟩,fun w w0 w1=>(a2 w w0 w1).trans (by simp[hv])⟩
end Go.Proofs.YtmofdldplbplbaaDoor.Q
namespace Go.Proofs.YtmofdldplbplbaaDoor.Q
open Go Go.RowKit Go.Proofs.YtmofdldplbplbaaDoor.P Go.Proofs.YtmofdldplbplbaaDoorW.PrintWords Go.Proofs.YtmofdldplbplbaaDoorW.PrintMore
def onesFrom (x:Nat):Nat→Nat→List Int
  |0,_=>[]
  |d+1,m=>if x.testBit m then(m:Int) :: onesFrom x d (m+1)else onesFrom x d (m+1)
theorem onesFrom_zero (d:Nat):∀m,onesFrom 0 d m=[]:=by
  induction d with
  |zero=>intro m;rfl
  |succ d ih=>intro m;simp[onesFrom,ih]
theorem onesFrom_congr (x y:Nat) (d:Nat):∀m,(∀i,m≤i→x.testBit i=y.testBit i)→onesFrom x d m=onesFrom y d m:=by
  induction d with
  |zero=>intro m _;rfl
  |succ d ih=>
    intro m h
    simp only[onesFrom]
    rw[h m (Nat.le_refl _),ih (m+1) fun i hi=>h i (by omega)]
theorem ctz_at {x m:Nat} (hx:x<2 ^ 64) (hb:x.testBit m=true) (hl:∀i,i<m→x.testBit i=false):Lib.ctz 64 x=m∧∃q,x=2 ^ m*(2*q+1):=by
  have h0:x≠0:=by rintro rfl;simp at hb
  obtain⟨q,e,_⟩:=Lib.ctzFrom_spec 64 x (by omega) hx
  have ec:Lib.ctz 64 x=Lib.ctzFrom 64 x:=by simp[Lib.ctz,h0]
  have ht:∀i,x.testBit i=(decide (i≥Lib.ctzFrom 64 x)&&(2*q+1).testBit (i-Lib.ctzFrom 64 x)):=fun i=>by rw[← Nat.testBit_two_pow_mul,← e]
  generalize Lib.ctzFrom 64 x=c at *
  have hc:c=m:=by
    rcases Nat.lt_trichotomy c m with h|h|h
    · have a:=hl c h
      rw[ht c]at a
      simp at a
    · exact h
    · rw[ht m]at hb
      have:¬m≥c:=by omega
      simp[this]at hb
  subst hc
  exact⟨ec,q,e⟩
theorem and_pred {m q:Nat}:(2 ^ m*(2*q+1)) &&& (2 ^ m*(2*q+1)-1)=2 ^ m*(2*q):=by
  have p:=Nat.two_pow_pos m
  have e:2 ^ m*(2*q+1)-1=2 ^ m*(2*q)+(2 ^ m-1):=by rw[Nat.mul_add];omega
  rw[e]
  refine Nat.eq_of_testBit_eq fun i=>?_
  rw[Nat.testBit_and,Nat.testBit_two_pow_mul,Nat.testBit_two_pow_mul_add _ (by omega),Nat.testBit_two_pow_mul]
  by_cases h:i<m
  · have:¬i≥m:=by omega
    simp[this]
  · have:i≥m:=by omega
    simp only[this,decide_true,Bool.true_and,h,if_false]
    cases i-m with
    |zero=>simp
    |succ j=>simp[Nat.testBit_succ];rw[show(2*q+1)/2=q by omega];simp
theorem pred_bit {m q i:Nat} (h:m<i):(2 ^ m*(2*q)).testBit i=(2 ^ m*(2*q+1)).testBit i:=by
  rw[Nat.testBit_two_pow_mul,Nat.testBit_two_pow_mul]
  obtain⟨j,hj⟩:∃j,i-m=j+1:=⟨i-m-1,by omega⟩
  rw[hj,Nat.testBit_succ,Nat.testBit_succ,show(2*q+1)/2=2*q/2 by omega]
theorem pred_low {m q i:Nat} (h:i<m+1):(2 ^ m*(2*q)).testBit i=false:=by
  rw[Nat.testBit_two_pow_mul]
  by_cases e:i=m
  · subst e
    simp
  · have:¬i≥m:=by omega
    simp[this]
theorem i_list_l0 (d:Nat):∀(m x:Nat) (acc:List Int),d+m=62→x<2 ^ 62→(∀i,i<m→x.testBit i=false)→acc.length≤m→Ev (fun k=>Qce.l0 k (x:Int) acc) (acc++onesFrom x d m):=by
  have done:∀d m (acc:List Int),Ev (fun k=>Qce.l0 k ((0:Nat):Int) acc) (acc++onesFrom 0 d m):=by
    intro d m acc
    rw[onesFrom_zero,List.append_nil]
    refine ev_k ?_
    simp only[Qce.l0]
    exact ev_pos rfl (Ev.now _)
  induction d with
  |zero=>
    intro m x acc hd hx hl ha
    have:x=0:=by
      refine Nat.eq_of_testBit_eq fun i=>?_
      rw[Nat.zero_testBit]
      by_cases hi:i<m
      · exact hl i hi
      · exact Nat.testBit_lt_two_pow (Nat.lt_of_lt_of_le hx (Nat.pow_le_pow_right (by decide) (by omega)))
    subst this
    exact done 0 m acc
  |succ d ih=>
    intro m x acc hd hx hl ha
    by_cases hb:x.testBit m=true
    · obtain⟨hc,q,e⟩:=ctz_at (Nat.lt_trans hx (by decide)) hb hl
      have x0:x≠0:=by rintro rfl;simp at hb
      have hq:2 ^ m*(2*q)<2 ^ 62:=Nat.lt_of_le_of_lt (Nat.mul_le_mul_left _ (by omega)) (e ▸ hx)
      have:=ih (m+1) (2 ^ m*(2*q)) (acc++[(m:Int)]) (by omega) hq (fun i hi=>pred_low hi) (by simp;omega)
      have e2:acc++onesFrom x (d+1) m=acc++[(m:Int)]++onesFrom (2 ^ m*(2*q)) d (m+1):=by
        simp only[onesFrom,hb,if_true]
        rw[onesFrom_congr x (2 ^ m*(2*q)) d (m+1) fun i hi=>by rw[pred_bit (by omega),← e]]
        simp
      rw[e2]
      refine ev_k ?_
      simp only[Qce.l0]
      refine ev_neg (by omega) ?_
      rw[wu64 (a:=(x:Int)) (by omega) (by omega),w64 (a:=(x:Int)-1) (by omega) (by omega),show(x:Int)-1=((x-1:Nat):Int) by omega,and_nat x (x-1) (by omega) (by omega)]
      have ex:x &&& (x-1)=2 ^ m*(2*q):=by rw[e];exact and_pred
      rw[ex]
      refine ev_bind0 (a:=(m:Int)) ?_ (ev_pos (by omega) this)
      unfold Qbz.f
      rw[if_pos (by omega),if_pos (by omega),Int.toNat_natCast,hc]
    · have:=ih (m+1) x acc (by omega) hx (fun i hi=>if h:i=m then by rw[h];simpa using hb else hl i (by omega)) (by omega)
      have e:onesFrom x (d+1) m=onesFrom x d (m+1):=by simp[onesFrom,hb]
      rwa [e]
def ones (x:Int):List Int:=onesFrom x.toNat 62 0
theorem i_list {x:Int} (h0:0≤x) (h1:x<4611686018427387904):Ev (fun k=>Qce.f k x) (ones x):=by
  obtain⟨y,rfl⟩:=Int.eq_ofNat_of_zero_le h0
  unfold Qce.f ones
  rw[Int.toNat_natCast]
  have:=i_list_l0 62 0 y [] (by omega) (by omega) (fun i hi=>by omega) (by simp)
  simpa using this
theorem onesFrom_mem (x:Nat) (d:Nat):∀m (v:Int),v ∈ onesFrom x d m↔∃i:Nat,v=(i:Int)∧m≤i∧i<m+d∧x.testBit i=true:=by
  induction d with
  |zero=>intro m v;simp[onesFrom];intro i _ _;omega
  |succ d ih=>
    intro m v
    simp only[onesFrom]
    have s:(∃i:Nat,v=(i:Int)∧m≤i∧i<m+(d+1)∧x.testBit i=true)↔(v=(m:Int)∧x.testBit m=true)∨∃i:Nat,v=(i:Int)∧m+1≤i∧i<m+1+d∧x.testBit i=true:=by
      constructor
      · rintro⟨i,rfl,h1,h2,h3⟩
        by_cases e:i=m
        · subst e
          exact .inl ⟨rfl,h3⟩
        · exact .inr ⟨i,rfl,by omega,by omega,h3⟩
      · rintro(⟨rfl,h⟩|⟨i,rfl,h1,h2,h3⟩)
        · exact⟨m,rfl,by omega,by omega,h⟩
        · exact⟨i,rfl,by omega,by omega,h3⟩
    rw[s,← ih]
    by_cases h:x.testBit m=true
    · rw[if_pos h]
      simp[h]
    · rw[if_neg h]
      simp[h]
theorem ones_mem {n x:Int} (n0:0≤n) (n2:n≤62) (x0:0≤x) (x1:x<2 ^ n.toNat) (v:Int):v ∈ ones x↔0≤v∧v<n∧tb x v=true:=by
  unfold ones
  rw[onesFrom_mem]
  constructor
  · rintro⟨i,rfl,h1,h2,h3⟩
    have ht:tb x i=true:=by rw[tb_toNat x0 (by omega)];simpa using h3
    refine⟨by omega,?_,ht⟩
    by_cases h:(i:Int)<n
    · exact h
    · rw[tb_high x0 x1 n0 (by omega)]at ht
      cases ht
  · rintro⟨h1,h2,h3⟩
    refine⟨v.toNat,by omega,by omega,by omega,?_⟩
    rwa [tb_toNat x0 h1]at h3
theorem onesFrom_length (x:Nat) (d:Nat):∀m,(onesFrom x d m).length≤d:=by
  induction d with
  |zero=>intro m;simp[onesFrom]
  |succ d ih=>
    intro m
    simp only[onesFrom]
    have:=ih (m+1)
    split<;>simp<;>omega
theorem ones_length (x:Int):(ones x).length≤62:=onesFrom_length _ 62 0
theorem onesFrom_high (x:Nat) (d e:Nat):∀m,x<2 ^ (m+d)→onesFrom x (d+e) m=onesFrom x d m:=by
  induction d with
  |zero=>
    intro m h
    rw[Nat.zero_add]
    induction e generalizing m with
    |zero=>rfl
    |succ e ihe=>
      have hb:x.testBit m=false:=Nat.testBit_lt_two_pow h
      simp only[onesFrom,hb]
      rw[ihe (m+1) (Nat.lt_of_lt_of_le h (Nat.pow_le_pow_right (by decide) (by omega)))]
      simp[onesFrom]
  |succ d ih=>
    intro m h
    rw[show d+1+e=(d+e)+1 by omega]
    simp only[onesFrom]
    rw[ih (m+1) (by rwa [show m+1+d=m+(d+1) by omega])]
theorem ones_to {n x:Int} (n0:0≤n) (n2:n≤62) (x0:0≤x) (x1:x<2 ^ n.toNat):ones x=onesFrom x.toNat n.toNat 0:=by
  unfold ones
  have e:((2:Int) ^ n.toNat)=((2 ^ n.toNat:Nat):Int):=by simp
  rw[e]at x1
  have:=onesFrom_high x.toNat n.toNat (62-n.toNat) 0 (by rw[Nat.zero_add];omega)
  rwa [show n.toNat+(62-n.toNat)=62 by omega]at this
end Go.Proofs.YtmofdldplbplbaaDoor.Q
namespace Go.Proofs.YtmofdldplbplbaaDoor.Q
open Go Go.RowKit Go.Proofs.YtmofdldplbplbaaDoor.P Go.Proofs.YtmofdldplbplbaaDoorW.PrintWords Go.Proofs.YtmofdldplbplbaaDoorW.PrintMore
theorem rows_all {n:Int} {l:List Int} (hn:(l.length:Int)=n) (P:Int→Prop):(∀x ∈ l,P x)↔∀v,0≤v→v<n→P (rd l v):=by
  constructor
  · intro h v v0 v1
    have hv:v.toNat<l.length:=by omega
    have:rd l v=l[v.toNat]:=by simp[rd,List.getD_eq_getElem?_getD,List.getElem?_eq_getElem hv]
    rw[this]
    exact h _ (List.getElem_mem _)
  · intro h x hx
    obtain⟨i,hi,rfl⟩:=List.getElem_of_mem hx
    have:=h i (by omega) (by omega)
    have e:rd l (i:Int)=l[i]:=by simp[rd,List.getD_eq_getElem?_getD,List.getElem?_eq_getElem hi]
    rwa [e]at this
theorem s_di (n:Int) (l:List Int):Says (fun k=>Qan.f k n l) (rows n l):=by
  have bad:¬rows n l→Says (fun k=>Qan.j0 k true n l) (rows n l):=fun h=>by
    refine says_k ?_
    simp only[Qan.j0]
    exact says_pos trivial (says_false h)
  unfold Qan.f
  rw[s_in]
  simp only[Option.bind_some]
  by_cases h1:1≤n∧n≤62
  · refine says_pos (decide_eq_true h1) ?_
    by_cases h2:(l.length:Int)=n
    · refine says_k ?_
      simp only[Qan.j0]
      refine says_neg (by simp[h2]) ?_
      have hp:=two_pow_le (n:=n) (by omega) h1.2
      have loop:∀(d:Nat) (v:Int),0≤v→v≤n→n-v=d→Says (fun k=>Qan.l0 k v n l) (∀a,v≤a→a<n→0≤rd l a∧rd l a<2 ^ n.toNat):=by
        intro d
        induction d with
        |zero=>
          intro v v0 v1 hd
          refine says_k ?_
          simp only[Qan.l0]
          exact says_neg (by omega) (says_true fun a _ _=>by omega)
        |succ d ih=>
          intro v v0 v1 hd
          refine says_k ?_
          simp only[Qan.l0]
          rw[wu64 (a:=n) (by omega) (by omega),shl_one (by omega) h1.2,w64 (a:=2 ^ n.toNat-1) (by omega) (by omega),s_in]
          simp only[Option.bind_some]
          refine says_pos (by omega) (says_pos v0 (says_pos (by omega) ?_))
          by_cases h:0≤rd l v∧rd l v≤2 ^ n.toNat-1
          · refine says_pos (decide_eq_true h) ?_
            rw[w64 (a:=v+1) (by omega) (by omega)]
            exact says_iff ⟨fun z a a0 a1=>z a (by omega) a1,fun z a a0 a1=>if ha:a=v then by subst ha;omega else z a (by omega) a1⟩ (ih (v+1) (by omega) (by omega) (by omega))
          · exact says_neg (by simpa using h) (says_false fun z=>h (by have:=z v (by omega) (by omega);omega))
      exact says_iff ⟨fun z=>z.2.2.2,fun z=>⟨h1.1,h1.2,h2,z⟩⟩ (loop n.toNat 0 (by omega) (by omega) (by omega))
    · rw[show((l.length:Int)!=n)=true by simpa using h2]
      exact bad fun z=>h2 z.2.2.1
  · exact says_neg (by simpa using h1) (bad fun z=>h1 ⟨z.1,z.2.1⟩)
theorem i_di (n:Int) (l:List Int):∃b,Qaf.f n l=some b∧(b=true↔rows n l):=by
  unfold Qaf.f
  by_cases h1:n<1
  · exact⟨false,if_pos h1,by simp;intro z;have:=z.1;omega⟩
  · rw[if_neg h1]
    by_cases h2:n>62
    · exact⟨false,if_pos h2,by simp;intro z;have:=z.2.1;omega⟩
    · rw[if_neg h2]
      by_cases h3:(l.length:Int)=n
      · rw[if_pos h3]
        have hp:=two_pow_le (n:=n) (by omega) (by omega)
        refine⟨_,rfl,?_⟩
        rw[w64 (a:=2 ^ n.toNat) (by omega) (by omega)]
        have:(!(l.any fun row=>decide (row<0)||decide (2 ^ n.toNat≤row)))=true↔∀x ∈ l,0≤x∧x<2 ^ n.toNat:=by
          simp only[Bool.not_eq_true',List.any_eq_false,Bool.or_eq_true,decide_eq_true_eq,not_or,Int.not_lt,Int.not_le]
        rw[this,rows_all h3]
        exact⟨fun z=>⟨by omega,by omega,h3,z⟩,fun z=>z.2.2.2⟩
      · exact⟨false,if_neg h3,by simp;intro z;exact h3 z.2.2.1⟩
theorem i_di_yes {n:Int} {l:List Int} (h:rows n l):Qaf.f n l=some true:=by
  obtain⟨b,hb,e⟩:=i_di n l
  rw[hb,e.2 h]
theorem i_di_no {n:Int} {l:List Int} (h:¬rows n l):Qaf.f n l=some false:=by
  obtain⟨b,hb,e⟩:=i_di n l
  cases b with
  |true=>exact absurd (e.1 rfl) h
  |false=>exact hb
theorem d_has (n:Int) (l:List Int) (v w:Int) (v0:0≤v) (v1:v<l.length) (w0:0≤w) (w1:w≤63):Qcd.f n l v w=some (tb (rd l v) w):=by
  unfold Qcd.f
  rw[if_pos v0,if_pos v1,wu64 w0 (by omega),if_pos w0,bit_is w0 w1]
end Go.Proofs.YtmofdldplbplbaaDoor.Q
namespace Go.Proofs.YtmofdldplbplbaaDoor.Q
open Go Go.RowKit Go.Proofs.YtmofdldplbplbaaDoor.P Go.Proofs.YtmofdldplbplbaaDoorW.PrintWords Go.Proofs.YtmofdldplbplbaaDoorW.PrintMore
def arcRow (v:Int) (ws:List Int):List (List Int):=ws.map fun w=>[v,w]
def arcsTo (l:List Int):Nat→List (List Int)
  |0=>[]
  |m+1=>arcsTo l m++arcRow (m:Int) (ones (rd l (m:Int)))
theorem arcRow_app (v:Int) (a b:List Int):arcRow v (a++b)=arcRow v a++arcRow v b:=by simp[arcRow]
theorem arcRow_length (v:Int) (a:List Int):(arcRow v a).length=a.length:=by simp[arcRow]
theorem arcsTo_length (l:List Int) (m:Nat):(arcsTo l m).length≤m*62:=by
  induction m with
  |zero=>simp[arcsTo]
  |succ m ih=>
    have b:=ones_length (rd l (m:Int))
    simp only[arcsTo,List.length_append,arcRow_length]
    omega
theorem arcsTo_mem {n:Int} {l:List Int} (h:rows n l) (m:Nat) (hm:(m:Int)≤n) (e:List Int):e ∈ arcsTo l m↔∃v w:Int,(0≤v∧v<m)∧(0≤w∧w<n)∧tb (rd l v) w=true∧e=[v,w]:=by
  have n2:=h.2.1
  induction m with
  |zero=>
    simp only[arcsTo,List.not_mem_nil,false_iff]
    rintro⟨v,w,hv,_⟩
    omega
  |succ m ih=>
    have hr:=h.2.2.2 (m:Int) (by omega) (by omega)
    simp only[arcsTo,List.mem_append]
    refine Iff.trans (or_congr (ih (by omega)) Iff.rfl) ?_
    constructor
    · rintro(⟨v,w,hv,hw⟩|he)
      · exact⟨v,w,by omega,hw⟩
      · obtain⟨w,hw,rfl⟩:=List.mem_map.1 he
        obtain⟨w0,w1,wt⟩:=(ones_mem (by omega) n2 hr.1 hr.2 w).1 hw
        exact⟨m,w,by omega,⟨w0,w1⟩,wt,rfl⟩
    · rintro⟨v,w,hv,hw,ht,rfl⟩
      by_cases z:v=m
      · subst z
        exact .inr (List.mem_map.2 ⟨w,(ones_mem (by omega) n2 hr.1 hr.2 w).2 ⟨hw.1,hw.2,ht⟩,rfl⟩)
      · exact .inl ⟨v,w,by omega,hw,ht,rfl⟩
theorem i_arcs {n:Int} {l:List Int} (h:rows n l):Ev (fun k=>Qbd.f k n l) (arcsTo l n.toNat):=by
  have n1:=h.1
  have n2:=h.2.1
  have hl:=h.2.2.1
  have loop:∀(d v:Nat),(v:Int)≤n→n-v=d→Ev (fun k=>Qbd.l0 k (arcsTo l v) l (l.length:Int) v) (arcsTo l n.toNat):=by
    intro d
    induction d with
    |zero=>
      intro v v1 hd
      refine ev_k ?_
      simp only[Qbd.l0]
      refine ev_neg (by omega) (ev_some ?_)
      rw[show v=n.toNat by omega]
    |succ d ih=>
      intro v v1 hd
      have hr:=h.2.2.2 (v:Int) (by omega) (by omega)
      have hp:=two_pow_le (n:=n) (by omega) n2
      have ol:=ones_length (rd l (v:Int))
      have el:=arcsTo_length l v
      have inner:∀(ws pre:List Int),pre++ws=ones (rd l (v:Int))→Ev (fun k=>Qbd.l1 k (arcsTo l v++arcRow v pre) v l (l.length:Int) v (ones (rd l (v:Int))) ((ones (rd l (v:Int))).length:Int) (pre.length:Int)) (arcsTo l n.toNat):=by
        intro ws
        induction ws with
        |nil=>
          intro pre hpre
          rw[List.append_nil]at hpre
          have:=ih (v+1) (by omega) (by omega)
          refine ev_k ?_
          simp only[Qbd.l1]
          rw[w64 (a:=(v:Int)+1) (by omega) (by omega),hpre]
          exact ev_neg (by omega) this
        |cons w ws ihw=>
          intro pre hpre
          have hlt:pre.length<(ones (rd l (v:Int))).length:=by rw[← hpre];simp
          have hw:rd (ones (rd l (v:Int))) (pre.length:Int)=w:=by
            rw[← hpre]
            simp[rd,List.getD_eq_getElem?_getD]
          have hrl:=arcRow_length (v:Int) pre
          have:=ihw (pre++[w]) (by rw[← hpre];simp)
          rw[arcRow_app,List.length_append,List.length_singleton,Int.natCast_add,show arcRow (v:Int) [w]=[[(v:Int),w]] from rfl,← List.append_assoc]at this
          refine ev_k ?_
          simp only[Qbd.l1,hw]
          rw[w64 (a:=(pre.length:Int)+1) (by omega) (by omega)]
          exact ev_pos (by omega) (ev_pos (by omega) (ev_pos (by omega) (ev_pos (by simp only[List.length_append];omega) this)))
      have:=inner (ones (rd l (v:Int))) [] rfl
      rw[show arcRow (v:Int) []=[] from rfl,List.append_nil]at this
      refine ev_k ?_
      simp only[Qbd.l0]
      exact ev_pos (by omega) (ev_pos (by omega) (ev_pos (by omega) (Ev.bind (i_list hr.1 (by omega)) this)))
  unfold Qbd.f
  exact loop n.toNat 0 (by omega) (by omega)
theorem s_arcs {n:Int} {l:List Int} (h:rows n l):Ev (fun k=>Qbu.f k n l) (arcsTo l n.toNat):=by
  have n1:=h.1
  have n2:=h.2.1
  have hl:=h.2.2.1
  have loop:∀(d v:Nat),(v:Int)≤n→n-v=d→Ev (fun k=>Qbu.l0 k (arcsTo l v) v n l) (arcsTo l n.toNat):=by
    intro d
    induction d with
    |zero=>
      intro v v1 hd
      refine ev_k ?_
      simp only[Qbu.l0]
      refine ev_neg (by omega) (ev_some ?_)
      rw[show v=n.toNat by omega]
    |succ d ih=>
      intro v v1 hd
      have hr:=h.2.2.2 (v:Int) (by omega) (by omega)
      have hp:=two_pow_le (n:=n) (by omega) n2
      have el:=arcsTo_length l v
      have hto:=ones_to (n:=n) (by omega) n2 hr.1 hr.2
      have inner:∀(e w:Nat) (acc:List (List Int)),(w:Int)≤n→n.toNat-w=e→acc.length+e≤4000→acc++arcRow v (onesFrom (rd l (v:Int)).toNat e w)=arcsTo l (v+1)→Ev (fun k=>Qbu.l1 k acc v w n l) (arcsTo l n.toNat):=by
        intro e
        induction e with
        |zero=>
          intro w acc w1 he hal hacc
          have:=ih (v+1) (by omega) (by omega)
          rw[← hacc]at this
          simp only[onesFrom]at this
          rw[show arcRow (v:Int) []=[] from rfl,List.append_nil]at this
          refine ev_k ?_
          simp only[Qbu.l1]
          rw[w64 (a:=(v:Int)+1) (by omega) (by omega)]
          exact ev_neg (by omega) this
        |succ e ihe=>
          intro w acc w1 he hal hacc
          have hh:=d_has n l (v:Int) (w:Int) (by omega) (by omega) (by omega) (by omega)
          have htb:tb (rd l (v:Int)) (w:Int)=(rd l (v:Int)).toNat.testBit w:=by rw[tb_toNat hr.1 (by omega),Int.toNat_natCast]
          refine ev_k ?_
          simp only[Qbu.l1,hh,Option.bind_some]
          rw[w64 (a:=(w:Int)+1) (by omega) (by omega)]
          refine ev_pos (by omega) ?_
          by_cases z:tb (rd l (v:Int)) (w:Int)=true
          · have:=ihe (w+1) (acc++[[(v:Int),(w:Int)]]) (by omega) (by omega) (by simp;omega) (by
              rw[← hacc]
              simp only[onesFrom]
              rw[if_pos (by rw[← htb];exact z)]
              rw[show(w:Int) :: onesFrom (rd l (v:Int)).toNat e (w+1)=[(w:Int)]++onesFrom (rd l (v:Int)).toNat e (w+1) from rfl,arcRow_app,show arcRow (v:Int) [(w:Int)]=[[(v:Int),(w:Int)]] from rfl,List.append_assoc])
            exact ev_pos z (ev_pos (by omega) this)
          · have:=ihe (w+1) acc (by omega) (by omega) (by omega) (by
              rw[← hacc]
              simp only[onesFrom]
              rw[if_neg (by rw[← htb];exact z)])
            exact ev_neg z this
      have:=inner n.toNat 0 (arcsTo l v) (by omega) (by omega) (by omega) (by simp only[arcsTo];rw[hto])
      refine ev_k ?_
      simp only[Qbu.l0]
      exact ev_pos (by omega) this
  unfold Qbu.f
  exact loop n.toNat 0 (by omega) (by omega)
end Go.Proofs.YtmofdldplbplbaaDoor.Q
namespace Go.Proofs.YtmofdldplbplbaaDoor.Q
open Go Go.RowKit Go.Proofs.YtmofdldplbplbaaDoorW.PrintWords Go.Proofs.YtmofdldplbplbaaDoorW.PrintMore
def Wk (n:Int) (l:List Int) (s:Int):Nat→Int→Prop
  |0,u=>u=s
  |k+1,u=>(0≤u∧u<n)∧∃w,(0≤w∧w<n)∧Wk n l s k w∧tb (rd l w) u=true
def Ds (n:Int) (l:List Int) (s:Int) (d:Nat) (u:Int):Prop:=Wk n l s d u∧∀j,j<d→¬Wk n l s j u
theorem Ds.uniq {n:Int} {l:List Int} {s u:Int} {d e:Nat} (h:Ds n l s d u) (g:Ds n l s e u):d=e:=by
  rcases Nat.lt_trichotomy d e with z|z|z
  · exact absurd h.1 (g.2 d z)
  · exact z
  · exact absurd g.1 (h.2 e z)
theorem Wk.range {n:Int} {l:List Int} {s:Int} (s0:0≤s) (s1:s<n) {k:Nat} {u:Int} (h:Wk n l s k u):0≤u∧u<n:=by
  cases k with
  |zero=>cases h;exact⟨s0,s1⟩
  |succ k=>exact h.1
theorem Wk.least {n:Int} {l:List Int} {s u:Int} (k:Nat) (h:Wk n l s k u):∃d,d≤k∧Ds n l s d u:=by
  induction k using Nat.strongRecOn with
  |_ k ih=>
    by_cases hj:∃j,j<k∧Wk n l s j u
    · obtain⟨j,hj,hw⟩:=hj
      obtain⟨d,hd,h2⟩:=ih j hj hw
      exact⟨d,by omega,h2⟩
    · exact⟨k,Nat.le_refl _,h,fun j hj' hw=>hj ⟨j,hj',hw⟩⟩
theorem Ds.ahead {n:Int} {l:List Int} {s u:Int} {d:Nat} (h:Ds n l s (d+1) u):∃w,(0≤w∧w<n)∧Ds n l s d w∧tb (rd l w) u=true:=by
  obtain⟨⟨hu,w,hw,hk,ht⟩,hm⟩:=h
  refine⟨w,hw,⟨hk,fun j hj hwj=>hm (j+1) (by omega) ⟨hu,w,hw,hwj,ht⟩⟩,ht⟩
theorem Ds.stops {n:Int} {l:List Int} {s:Int} {d:Nat} (h:∀w,¬Ds n l s d w):∀e,d≤e→∀u,¬Ds n l s e u:=by
  intro e he
  induction e with
  |zero=>
    obtain rfl:d=0:=by omega
    exact h
  |succ e ih=>
    by_cases z:d=e+1
    · subst z
      exact h
    · intro u hu
      obtain⟨w,_,hw,_⟩:=hu.ahead
      exact ih (by omega) w hw
theorem Ds.next {n:Int} {l:List Int} {s u:Int} {d:Nat} (hu:0≤u∧u<n):Ds n l s (d+1) u↔(∃w,(0≤w∧w<n)∧Ds n l s d w∧tb (rd l w) u=true)∧¬∃j,j≤d∧Wk n l s j u:=by
  constructor
  · intro h
    exact⟨h.ahead,fun⟨j,hj,hw⟩=>h.2 j (by omega) hw⟩
  · rintro⟨⟨w,hw,hd,ht⟩,hno⟩
    exact⟨⟨hu,w,hw,hd.1,ht⟩,fun j hj hwj=>hno ⟨j,by omega,hwj⟩⟩
def DistL (n:Int) (l:List Int) (s:Int) (ds:List Int):Prop:=(ds.length:Int)=n∧∀u,0≤u→u<n→(rd ds u=-1∧∀j,¬Wk n l s j u)∨∃d:Nat,rd ds u=(d:Int)∧Ds n l s d u
theorem DistL.eq {n:Int} {l:List Int} {s:Int} {a b:List Int} (ha:DistL n l s a) (hb:DistL n l s b):a=b:=by
  refine rd_ext (by have:=ha.1;have:=hb.1;omega) fun v v0 v1=>?_
  have v1:v<n:=by have:=ha.1;omega
  rcases ha.2 v v0 v1 with⟨e,h⟩|⟨d,e,h⟩<;>rcases hb.2 v v0 v1 with⟨f,g⟩|⟨c,f,g⟩
  · rw[e,f]
  · exact absurd g.1 (h c)
  · exact absurd h.1 (g d)
  · rw[e,f,h.uniq g]
theorem Ds.zero (n:Int) (l:List Int) (s u:Int):Ds n l s 0 u↔u=s:=⟨fun h=>h.1,fun h=>⟨h,fun j hj=>by omega⟩⟩
structure Dist (n:Int) (l:List Int) (s:Int) (r:List Int):Prop where
  len:(r.length:Int)=n
  src:∀u,0≤u→u<n→(rd r u=0↔u=s)
  next:∀(d u:Int),0≤d→0≤u→u<n→(rd r u=d+1↔(∃w,(0≤w∧w<n)∧rd r w=d∧tb (rd l w) u=true)∧¬(0≤rd r u∧rd r u≤d))
  low:∀u,0≤u→u<n→-1≤rd r u
  stops:∀d,0≤d→(∀u,0≤u→u<n→rd r u≠d)→∀u,0≤u→u<n→rd r u<d
theorem DistL.ds {n:Int} {l:List Int} {s:Int} {r:List Int} (h:DistL n l s r) {u:Int} (u0:0≤u) (u1:u<n) (d:Nat):rd r u=(d:Int)↔Ds n l s d u:=by
  rcases h.2 u u0 u1 with⟨e,g⟩|⟨c,e,g⟩
  · exact⟨fun z=>by omega,fun z=>absurd z.1 (g d)⟩
  · constructor
    · intro z
      have:c=d:=by omega
      exact this ▸ g
    · intro z
      rw[e,g.uniq z]
theorem DistL.met {n:Int} {l:List Int} {s:Int} {r:List Int} (h:DistL n l s r) {u:Int} (u0:0≤u) (u1:u<n) (d:Nat):(0≤rd r u∧rd r u≤(d:Int))↔∃j,j≤d∧Wk n l s j u:=by
  constructor
  · intro z
    have:=(h.ds u0 u1 (rd r u).toNat).1 (by omega)
    exact⟨(rd r u).toNat,by omega,this.1⟩
  · rintro⟨j,hj,hw⟩
    obtain⟨c,hc,hd⟩:=hw.least
    have:=(h.ds u0 u1 c).2 hd
    omega
theorem DistL.dist {n:Int} {l:List Int} {s:Int} {r:List Int} (h:DistL n l s r):Dist n l s r where
  len:=h.1
  src:=fun u u0 u1=>(h.ds u0 u1 0).trans (Ds.zero n l s u)
  next:=fun d u d0 u0 u1=>by
    obtain⟨d,rfl⟩:=Int.eq_ofNat_of_zero_le d0
    have a:=h.ds u0 u1 (d+1)
    rw[show((d+1:Nat):Int)=(d:Int)+1 by omega]at a
    rw[a,Ds.next ⟨u0,u1⟩,h.met u0 u1]
    refine and_congr ⟨?_,?_⟩ Iff.rfl
    · rintro⟨w,hw,hd,ht⟩
      exact⟨w,hw,(h.ds hw.1 hw.2 d).2 hd,ht⟩
    · rintro⟨w,hw,hd,ht⟩
      exact⟨w,hw,(h.ds hw.1 hw.2 d).1 hd,ht⟩
  low:=fun u u0 u1=>by
    rcases h.2 u u0 u1 with⟨e,_⟩|⟨c,e,_⟩<;>omega
  stops:=fun d d0 hd u u0 u1=>by
    obtain⟨d,rfl⟩:=Int.eq_ofNat_of_zero_le d0
    rcases h.2 u u0 u1 with⟨e,_⟩|⟨c,e,g⟩
    · omega
    · by_cases z:c<d
      · omega
      · refine absurd g ?_
        refine Ds.stops (d:=d) (fun w hw=>?_) c (by omega) u
        have hr:0≤w∧w<n:=by
          cases d with
          |zero=>
            have hs:w=s:=hw.1
            by_cases hc:0≤s∧s<n
            · rw[hs];exact hc
            · exfalso
              have key:∀(c:Nat) (u:Int),0≤u→u<n→¬Ds n l s c u:=by
                intro c
                induction c with
                |zero=>intro u u0 u1 z;have:u=s:=z.1;exact hc ⟨by omega,by omega⟩
                |succ c ih=>intro u u0 u1 z;obtain⟨w,hw,hd,_⟩:=z.ahead;exact ih w hw.1 hw.2 hd
              exact key c u u0 u1 g
          |succ d=>exact hw.1.1
        exact hd w hr.1 hr.2 ((h.ds hr.1 hr.2 d).2 hw)
open Classical in
theorem distL_exists (n:Int) (l:List Int) (s:Int) (n0:0≤n):∃r,DistL n l s r:=by
  let f:Nat→Int:=fun u=>if h:∃d:Nat,Ds n l s d (u:Int)then(h.choose:Int)else -1
  refine⟨(List.range n.toNat).map f,by simp;omega,fun u u0 u1=>?_⟩
  have e:rd ((List.range n.toNat).map f) u=f u.toNat:=by
    have:u.toNat<n.toNat:=by omega
    simp[rd,List.getD_eq_getElem?_getD,this]
  rw[e]
  have hu:((u.toNat:Nat):Int)=u:=Int.toNat_of_nonneg u0
  show _∨_
  by_cases h:∃d:Nat,Ds n l s d ((u.toNat:Nat):Int)
  · refine .inr ⟨h.choose,dif_pos h,?_⟩
    have go:∀(c:Nat) (z:Int),z=u→Ds n l s c z→Ds n l s c u:=fun c z e h=>e ▸ h
    exact go _ _ hu h.choose_spec
  · refine .inl ⟨dif_neg h,fun j hj=>h ?_⟩
    obtain⟨d,_,hd⟩:=hj.least
    exact⟨d,by rwa [hu]⟩
theorem length_of_all (K:Nat):∀xs:List Nat,(∀d,d<K→d ∈ xs)→K≤xs.length:=by
  induction K with
  |zero=>intro xs _;omega
  |succ K ih=>
    intro xs h
    have hm:=h K (by omega)
    have:=ih (xs.erase K) fun d hd=>(List.mem_erase_of_ne (by omega)).2 (h d (by omega))
    have:=List.length_erase_of_mem hm
    have:=List.length_pos_of_mem hm
    omega
theorem Dist.level {n:Int} {l:List Int} {s:Int} {r:List Int} (h:Dist n l s r) (D:Nat):∀u,0≤u→u<n→rd r u=(D:Int)→∀d,d≤D→∃w,(0≤w∧w<n)∧rd r w=(d:Int):=by
  induction D with
  |zero=>intro u u0 u1 hu d hd;exact⟨u,⟨u0,u1⟩,by rw[hu];omega⟩
  |succ D ih=>
    intro u u0 u1 hu d hd
    by_cases e:d=D+1
    · exact⟨u,⟨u0,u1⟩,by rw[hu,e]⟩
    · obtain⟨⟨w,hw,hd',_⟩,_⟩:=(h.next D u (by omega) u0 u1).1 (by rw[hu];omega)
      exact ih w hw.1 hw.2 hd' d (by omega)
theorem Dist.small {n:Int} {l:List Int} {s:Int} {r:List Int} (h:Dist n l s r):∀u,0≤u→u<n→rd r u<n:=by
  intro u u0 u1
  by_cases z:rd r u<0
  · omega
  · have lv:=h.level (rd r u).toNat u u0 u1 (by omega)
    have:=length_of_all ((rd r u).toNat+1) (r.map Int.toNat) fun d hd=>by
      obtain⟨w,hw,e⟩:=lv d (by omega)
      have hl:=h.len
      have hwl:w.toNat<r.length:=by omega
      have e2:rd r w=r[w.toNat]:=by simp[rd,List.getD_eq_getElem?_getD,List.getElem?_eq_getElem hwl]
      exact List.mem_map.2 ⟨r[w.toNat],List.getElem_mem _,by rw[← e2,e];omega⟩
    rw[List.length_map]at this
    have:=h.len
    omega
end Go.Proofs.YtmofdldplbplbaaDoor.Q
namespace Go.Proofs.YtmofdldplbplbaaDoor.Q
open Go Go.RowKit Go.Proofs.YtmofdldplbplbaaDoorW.PrintWords Go.Proofs.YtmofdldplbplbaaDoorW.PrintMore
theorem rd_app_left {q:List Int} {u:Int} {i:Int} (i0:0≤i) (i1:i<q.length):rd (q++[u]) i=rd q i:=by
  simp only[rd,List.getD_eq_getElem?_getD]
  rw[List.getElem?_append_left (by omega)]
theorem rd_app_last (q:List Int) (u:Int):rd (q++[u]) q.length=u:=by
  simp[rd,List.getD_eq_getElem?_getD]
theorem rd_mem {q:List Int} {i:Int} (i0:0≤i) (i1:i<q.length):rd q i ∈ q:=by
  have hu:i.toNat<q.length:=by omega
  have:rd q i=q[i.toNat]:=by simp[rd,List.getD_eq_getElem?_getD,List.getElem?_eq_getElem hu]
  rw[this]
  exact List.getElem_mem _
theorem mem_rd {q:List Int} {u:Int} (h:u ∈ q):∃i:Int,(0≤i∧i<q.length)∧rd q i=u:=by
  obtain⟨i,hi,rfl⟩:=List.getElem_of_mem h
  exact⟨i,by omega,by simp[rd,List.getD_eq_getElem?_getD,List.getElem?_eq_getElem hi]⟩
structure QI (n:Int) (l:List Int) (s:Int) (r ds q:List Int) (i:Int):Prop where
  len:(ds.length:Int)=n
  at0:0≤i∧i≤q.length
  val:∀u,0≤u→u<n→rd ds u=-1∨(rd ds u=rd r u∧0≤rd r u)
  mem:∀u,u ∈ q↔(0≤u∧u<n)∧0≤rd ds u
  mono:∀a b:Int,0≤a→a≤b→b<q.length→rd r (rd q a)≤rd r (rd q b)
  top:i<q.length→∀b:Int,0≤b→b<q.length→rd r (rd q b)≤rd r (rd q i)+1
  clos:∀a:Int,0≤a→a<i→∀u,0≤u→u<n→tb (rd l (rd q a)) u=true→0≤rd ds u
  met:i<q.length→∀u,0≤u→u<n→0≤rd r u→rd r u≤rd r (rd q i)→0≤rd ds u
  cnt:ds.count (-1)+q.length=n
  src:s ∈ q
section
variable {n:Int} {l:List Int} {s:Int} {r:List Int} (hr:Dist n l s r)
theorem QI.head {ds q:List Int} {i:Int} (h:QI n l s r ds q i) (hi:i<q.length):(0≤rd q i∧rd q i<n)∧rd ds (rd q i)=rd r (rd q i)∧0≤rd r (rd q i):=by
  obtain⟨hw,h0⟩:=(h.mem (rd q i)).1 (rd_mem h.at0.1 hi)
  rcases h.val _ hw.1 hw.2 with e|e
  · omega
  · exact⟨hw,e.1,e.2⟩
theorem QI.at_ {ds q:List Int} {i:Int} (h:QI n l s r ds q i) {a:Int} (a0:0≤a) (a1:a<q.length):(0≤rd q a∧rd q a<n)∧rd ds (rd q a)=rd r (rd q a)∧0≤rd r (rd q a):=by
  obtain⟨hw,h0⟩:=(h.mem (rd q a)).1 (rd_mem a0 a1)
  rcases h.val _ hw.1 hw.2 with e|e
  · omega
  · exact⟨hw,e.1,e.2⟩
include hr
theorem QI.add {ds q:List Int} {i:Int} (h:QI n l s r ds q i) (hi:i<q.length) {u:Int} (u0:0≤u) (u1:u<n) (ht:tb (rd l (rd q i)) u=true) (hu:rd ds u<0):rd r u=rd r (rd q i)+1∧QI n l s r (ds.set u.toNat (rd r u)) (q++[u]) i:=by
  obtain⟨hw,hd,h0⟩:=h.head hi
  have i0:=h.at0.1
  have hnext:=hr.next (rd r (rd q i)) u h0 u0 u1
  have e:rd r u=rd r (rd q i)+1:=by
    refine hnext.2 ⟨⟨rd q i,hw,rfl,ht⟩,fun z=>?_⟩
    have:=h.met hi u u0 u1 z.1 z.2
    omega
  have hlen:=h.len
  have hs:∀v,0≤v→rd (ds.set u.toNat (rd r u)) v=if v=u then rd r u else rd ds v:=fun v v0=>rd_set _ u0 (by omega) v0
  have nm:∀v,0≤v→0≤rd ds v→0≤rd (ds.set u.toNat (rd r u)) v:=fun v v0 z=>by
    rw[hs v v0]
    split<;>omega
  have len2:((q++[u]).length:Int)=q.length+1:=by simp
  refine⟨e,⟨by simpa using hlen,by omega,fun v v0 v1=>?_,fun v=>?_,fun a b a0 ab b1=>?_,fun _ b b0 b1=>?_,fun a a0 a1 v v0 v1 tv=>?_,fun _ v v0 v1 z y=>?_,?_,by simp[h.src]⟩⟩
  · rw[hs v v0]
    by_cases z:v=u
    · rw[if_pos z,z]
      exact .inr ⟨rfl,by omega⟩
    · rw[if_neg z]
      exact h.val v v0 v1
  · rw[List.mem_append,List.mem_singleton,h.mem v]
    constructor
    · rintro(⟨z,y⟩|rfl)
      · exact⟨z,nm v z.1 y⟩
      · exact⟨⟨u0,u1⟩,by rw[hs v u0,if_pos rfl];omega⟩
    · rintro⟨z,y⟩
      by_cases q:v=u
      · exact .inr q
      · rw[hs v z.1,if_neg q]at y
        exact .inl ⟨z,y⟩
  · by_cases hb:b=q.length
    · subst hb
      rw[rd_app_last]
      by_cases ha:a=q.length
      · subst ha
        rw[rd_app_last]
        omega
      · rw[rd_app_left a0 (by omega),e]
        exact h.top hi a a0 (by omega)
    · rw[rd_app_left a0 (by omega),rd_app_left (by omega) (by omega)]
      exact h.mono a b a0 ab (by omega)
  · rw[rd_app_left (q:=q) (i:=i) i0 hi]
    by_cases hb:b=q.length
    · subst hb
      rw[rd_app_last]
      omega
    · rw[rd_app_left b0 (by omega)]
      exact h.top hi b b0 (by omega)
  · rw[rd_app_left a0 (by omega)]at tv
    exact nm v v0 (h.clos a a0 a1 v v0 v1 tv)
  · rw[rd_app_left (q:=q) (i:=i) i0 hi]at y
    exact nm v v0 (h.met hi v v0 v1 z y)
  · have hul:u.toNat<ds.length:=by omega
    have e1:ds[u.toNat]=-1:=by
      have:=h.val u u0 u1
      have e2:rd ds u=ds[u.toNat]:=by simp[rd,List.getD_eq_getElem?_getD,List.getElem?_eq_getElem hul]
      omega
    have c:=List.count_set (a:=rd r u) (b:=(-1:Int)) hul
    have cp:0<ds.count (-1):=List.count_pos_iff.2 (by rw[← e1];exact List.getElem_mem _)
    rw[e1,if_pos (by simp),if_neg (by simp;omega)]at c
    have:=h.cnt
    rw[c,List.length_append]
    simp
    omega
theorem QI.step {ds q:List Int} {i:Int} (h:QI n l s r ds q i) (hi:i<q.length) (hp:∀u,0≤u→u<n→tb (rd l (rd q i)) u=true→0≤rd ds u):QI n l s r ds q (i+1):=by
  obtain⟨hw,hd,h0⟩:=h.head hi
  have i0:=h.at0.1
  have hcl:∀a:Int,0≤a→a<i+1→∀u,0≤u→u<n→tb (rd l (rd q a)) u=true→0≤rd ds u:=fun a a0 a1 u u0 u1 tu=>by
    by_cases e:a=i
    · subst e
      exact hp u u0 u1 tu
    · exact h.clos a a0 (by omega) u u0 u1 tu
  refine⟨h.len,by omega,h.val,h.mem,h.mono,fun hi2 b b0 b1=>?_,hcl,fun hi2 u u0 u1 z y=>?_,h.cnt,h.src⟩
  · have a:=h.mono i (i+1) i0 (by omega) hi2
    have c:=h.top hi b b0 b1
    omega
  · have a:=h.mono i (i+1) i0 (by omega) hi2
    have c:=h.top hi (i+1) (by omega) hi2
    by_cases e:rd r u≤rd r (rd q i)
    · exact h.met hi u u0 u1 z e
    · obtain⟨⟨w,hw,hwd,ht⟩,_⟩:=(hr.next (rd r (rd q i)) u h0 u0 u1).1 (by omega)
      have hwq:w ∈ q:=(h.mem w).2 ⟨hw,h.met hi w hw.1 hw.2 (by omega) (by omega)⟩
      obtain⟨a,ha,hae⟩:=mem_rd hwq
      have:a<i+1:=by
        by_cases z2:a<i+1
        · exact z2
        · have:=h.mono (i+1) a (by omega) (by omega) ha.2
          rw[hae]at this
          omega
      rw[← hae]at ht
      exact hcl a ha.1 this u u0 u1 ht
theorem QI.done {ds q:List Int} {i:Int} (h:QI n l s r ds q i) (hi:¬i<q.length):ds=r:=by
  have hall:∀(d:Nat) (u:Int),0≤u→u<n→rd r u=(d:Int)→0≤rd ds u:=by
    intro d
    induction d with
    |zero=>
      intro u u0 u1 hu
      have:=(hr.src u u0 u1).1 hu
      subst this
      exact((h.mem _).1 h.src).2
    |succ d ih=>
      intro u u0 u1 hu
      obtain⟨⟨w,hw,hwd,ht⟩,_⟩:=(hr.next d u (by omega) u0 u1).1 (by omega)
      obtain⟨a,ha,hae⟩:=mem_rd ((h.mem w).2 ⟨hw,ih w hw.1 hw.2 hwd⟩)
      rw[← hae]at ht
      exact h.clos a ha.1 (by omega) u u0 u1 ht
  refine rd_ext (by have:=h.len;have:=hr.len;omega) fun u u0 u1=>?_
  have u1:u<n:=by have:=h.len;omega
  have lw:=hr.low u u0 u1
  rcases h.val u u0 u1 with e|e
  · by_cases z:rd r u<0
    · omega
    · have:=hall (rd r u).toNat u u0 u1 (by omega)
      omega
  · exact e.1
theorem QI.start (s0:0≤s) (s1:s<n):QI n l s r ((List.replicate n.toNat (-1)).set s.toNat 0) [s] 0:=by
  have hs:∀v,0≤v→v<n→rd ((List.replicate n.toNat (-1)).set s.toNat 0) v=if v=s then 0 else -1:=fun v v0 v1=>by
    rw[rd_set _ s0 (by simp;omega) v0]
    have:v.toNat<n.toNat:=by omega
    split
    · rfl
    · simp[rd,List.getD_eq_getElem?_getD,this]
  have h0:rd [s] 0=s:=rfl
  have e0:=(hr.src s s0 s1).2 rfl
  have one:∀b:Int,0≤b→b<([s].length:Nat)→rd [s] b=s:=fun b b0 b1=>by
    obtain rfl:b=0:=by simp at b1;omega
    rfl
  refine⟨by simp;omega,by simp,fun u u0 u1=>?_,fun u=>?_,fun a b a0 ab b1=>?_,fun _ b b0 b1=>?_,fun a a0 a1=>by omega,fun _ u u0 u1 z y=>?_,?_,by simp⟩
  · rw[hs u u0 u1]
    by_cases e:u=s
    · rw[if_pos e,e,e0]
      exact .inr ⟨rfl,by omega⟩
    · exact .inl (if_neg e)
  · rw[List.mem_singleton]
    constructor
    · rintro rfl
      exact⟨⟨s0,s1⟩,by rw[hs u s0 s1,if_pos rfl];omega⟩
    · rintro⟨z,y⟩
      rw[hs u z.1 z.2]at y
      by_cases e:u=s
      · exact e
      · rw[if_neg e]at y
        omega
  · rw[one a a0 (by omega),one b (by omega) b1]
    omega
  · rw[one b b0 b1,h0]
    omega
  · rw[h0,e0]at y
    rw[(hr.src u u0 u1).1 (by omega),hs s s0 s1,if_pos rfl]
    omega
  · have hul:s.toNat<(List.replicate n.toNat (-1:Int)).length:=by simp;omega
    have c:=List.count_set (a:=(0:Int)) (b:=(-1:Int)) hul
    rw[c]
    simp
    omega
end
end Go.Proofs.YtmofdldplbplbaaDoor.Q
namespace Go.Proofs.YtmofdldplbplbaaDoor.Q
open Go Go.RowKit Go.Proofs.YtmofdldplbplbaaDoor.P Go.Proofs.YtmofdldplbplbaaDoorW.PrintWords Go.Proofs.YtmofdldplbplbaaDoorW.PrintMore
theorem r_index (l:List Int) (hl:l.length≤1152921504606846976) (x:Int) (d:Nat):∀i:Int,0≤i→i≤l.length→l.length-i=d→∃r,Ev (fun k=>Qbi.l0 k l x l.length i) r∧(0≤r↔∃j:Int,i≤j∧j<l.length∧rd l j=x):=by
  induction d with
  |zero=>
    intro i i0 i1 hd
    refine⟨-1,ev_k ?_,fun z=>by omega,fun⟨j,a,b,_⟩=>by omega⟩
    simp only[Qbi.l0]
    exact ev_neg (by omega) (Ev.now _)
  |succ d ih=>
    intro i i0 i1 hd
    by_cases h:x=rd l i
    · refine⟨i,ev_k ?_,fun _=>⟨i,by omega,by omega,h.symm⟩,fun _=>i0⟩
      simp only[Qbi.l0]
      exact ev_pos (by omega) (ev_pos i0 (ev_pos (by omega) (ev_pos h (Ev.now _))))
    · obtain⟨r,hr,e⟩:=ih (i+1) (by omega) (by omega) (by omega)
      refine⟨r,ev_k ?_,e.trans ⟨fun⟨j,a,b,c⟩=>⟨j,by omega,b,c⟩,fun⟨j,a,b,c⟩=>⟨j,by
        by_cases z:j=i
        · rw[z]at c;exact absurd c.symm h
        · omega,b,c⟩⟩⟩
      simp only[Qbi.l0]
      rw[w64 (a:=i+1) (by omega) (by omega)]
      exact ev_pos (by omega) (ev_pos i0 (ev_pos (by omega) (ev_neg h hr)))
theorem r_contains (l:List Int) (hl:l.length≤1152921504606846976) (x:Int):∃b:Bool,Ev (fun k=>Qck.f k l x) b∧(b=true↔∃j:Int,0≤j∧j<l.length∧rd l j=x):=by
  obtain⟨r,hr,e⟩:=r_index l hl x l.length 0 (by omega) (by omega) (by omega)
  refine⟨decide (r≥0),?_,by rw[decide_eq_true_iff];exact e⟩
  unfold Qck.f Qbi.f
  exact Ev.bind hr (Ev.now _)
end Go.Proofs.YtmofdldplbplbaaDoor.Q
namespace Go.Proofs.YtmofdldplbplbaaDoor.Q
open Go Go.RowKit Go.Proofs.YtmofdldplbplbaaDoorW.PrintWords Go.Proofs.YtmofdldplbplbaaDoorW.PrintMore
open Classical in
noncomputable def dist (n:Int) (l:List Int) (s:Int):List Int:=if h:0≤n then(distL_exists n l s h).choose else[]
theorem distL (n:Int) (l:List Int) (s:Int) (n0:0≤n):DistL n l s (dist n l s):=by
  unfold dist
  rw[dif_pos n0]
  exact(distL_exists n l s n0).choose_spec
theorem dist_of (n:Int) (l:List Int) (s:Int) (n0:0≤n):Dist n l s (dist n l s):=(distL n l s n0).dist
end Go.Proofs.YtmofdldplbplbaaDoor.Q
namespace Go.Proofs.YtmofdldplbplbaaDoor.Q
open Go Go.RowKit Go.Proofs.YtmofdldplbplbaaDoorW.PrintWords Go.Proofs.YtmofdldplbplbaaDoorW.PrintMore
def Rw (n x:Int):Prop:=0≤x∧x<2 ^ n.toNat
theorem Rw.nat {n x:Int} (n2:n≤62) (h:Rw n x):∃y:Nat,x=(y:Int)∧y<2 ^ n.toNat∧y<2 ^ 62:=by
  obtain⟨h0,h1⟩:=h
  have e:((2:Int) ^ n.toNat)=((2 ^ n.toNat:Nat):Int):=by simp
  have p:2 ^ n.toNat≤2 ^ 62:=Nat.pow_le_pow_right (by decide) (by omega)
  rw[e]at h1
  exact⟨x.toNat,by omega,by omega,by omega⟩
theorem Rw.of {n:Int} {y:Nat} (h:y<2 ^ n.toNat):Rw n (y:Int):=by
  have e:((2:Int) ^ n.toNat)=((2 ^ n.toNat:Nat):Int):=by simp
  exact⟨by omega,by rw[e];omega⟩
theorem or_rw {n x y:Int} (n2:n≤62) (hx:Rw n x) (hy:Rw n y):Rw n (bits .or .i64 x y)∧∀w,0≤w→(tb (bits .or .i64 x y) w=true↔tb x w=true∨tb y w=true):=by
  obtain⟨a,rfl,a1,a2⟩:=hx.nat n2
  obtain⟨b,rfl,b1,b2⟩:=hy.nat n2
  rw[or_nat a b (by omega) (by omega)]
  refine⟨Rw.of (Nat.or_lt_two_pow a1 b1),fun w w0=>?_⟩
  obtain⟨w,rfl⟩:=Int.eq_ofNat_of_zero_le w0
  rw[tb_nat,tb_nat,tb_nat,Nat.testBit_or]
  simp
theorem andNot_rw {n x y:Int} (n2:n≤62) (hx:Rw n x) (hy:Rw n y):Rw n (bits .andNot .i64 x y)∧∀w,0≤w→(tb (bits .andNot .i64 x y) w=true↔tb x w=true∧¬tb y w=true):=by
  obtain⟨a,rfl,a1,a2⟩:=hx.nat n2
  obtain⟨b,rfl,b1,b2⟩:=hy.nat n2
  obtain⟨c,e,_,hc⟩:=andNot_nat a b (by omega) (by omega)
  rw[e]
  have c1:c<2 ^ n.toNat:=by
    refine Nat.lt_pow_two_of_testBit _ fun i hi=>?_
    rw[hc,Nat.testBit_lt_two_pow (Nat.lt_of_lt_of_le a1 (Nat.pow_le_pow_right (by decide) hi))]
    rfl
  refine⟨Rw.of c1,fun w w0=>?_⟩
  obtain⟨w,rfl⟩:=Int.eq_ofNat_of_zero_le w0
  rw[tb_nat,tb_nat,tb_nat,hc]
  simp
theorem one_rw {n j:Int} (n2:n≤62) (j0:0≤j) (j1:j<n):Rw n (shl .i64 1 j)∧∀w,0≤w→(tb (shl .i64 1 j) w=true↔w=j):=by
  rw[shl_one j0 (by omega),show((2:Int) ^ j.toNat)=((2 ^ j.toNat:Nat):Int) by simp]
  refine⟨Rw.of (Nat.pow_lt_pow_right (by decide) (by omega)),fun w w0=>?_⟩
  obtain⟨w,rfl⟩:=Int.eq_ofNat_of_zero_le w0
  rw[tb_nat,Nat.testBit_two_pow]
  simp
  omega
theorem zero_rw (n:Int):Rw n 0∧∀w,¬tb 0 w=true:=by
  have p:(0:Int)<2 ^ n.toNat:=Int.pow_pos (by decide)
  exact⟨⟨by omega,p⟩,fun w=>by simp[tb]⟩
theorem Rw.eq_zero {n x:Int} (n0:0≤n) (hx:Rw n x):x=0↔∀w,0≤w→w<n→¬tb x w=true:=by
  constructor
  · rintro rfl w _ _
    exact(zero_rw n).2 w
  · intro h
    exact tb_ext hx.1 hx.2 (zero_rw n).1.1 (zero_rw n).1.2 n0 fun i i0 i1=>by
      have a:=h i i0 i1
      have b:=(zero_rw n).2 i
      simp at a b
      rw[a,b]
end Go.Proofs.YtmofdldplbplbaaDoor.Q
namespace Go.Proofs.YtmofdldplbplbaaDoor.Q
open Go Go.RowKit Go.Proofs.YtmofdldplbplbaaDoor.P Go.Proofs.YtmofdldplbplbaaDoorW.PrintWords Go.Proofs.YtmofdldplbplbaaDoorW.PrintMore
def Is (n x:Int) (P:Int→Prop):Prop:=Rw n x∧∀u,0≤u→u<n→(tb x u=true↔P u)
theorem Is.imp {n x:Int} {P Q:Int→Prop} (h:Is n x P) (e:∀u,0≤u→u<n→(P u↔Q u)):Is n x Q:=⟨h.1,fun u u0 u1=>(h.2 u u0 u1).trans (e u u0 u1)⟩
theorem level_next {n:Int} {l:List Int} {s:Int} {r:List Int} (hr:Dist n l s r) {d S X:Int} (d0:0≤d) (hX:Is n X fun u=>∃w,(0≤w∧w<n)∧rd r w=d∧tb (rd l w) u=true) (u:Int) (u0:0≤u) (u1:u<n) (hS:tb S u=true↔0≤rd r u∧rd r u≤d):((tb S u=true∨tb X u=true)↔0≤rd r u∧rd r u≤d+1)∧((tb X u=true∧¬tb S u=true)↔rd r u=d+1):=by
  have a:=hr.next d u d0 u0 u1
  rw[hS,hX.2 u u0 u1]
  constructor
  · constructor
    · rintro(z|z)
      · omega
      · by_cases q:0≤rd r u∧rd r u≤d
        · omega
        · have:=a.2 ⟨z,q⟩
          omega
    · intro z
      by_cases q:0≤rd r u∧rd r u≤d
      · exact .inl q
      · exact .inr (a.1 (by omega)).1
  · exact a.symm
section
variable {n:Int} {l:List Int} (h:rows n l) {s:Int} (s0:0≤s) (s1:s<n) {r:List Int} (hr:Dist n l s r)
include h hr
theorem i_distances_l0 (M:Nat) (hM:∀u,0≤u→u<n→rd r u<(M:Int)) (e:Nat):∀(d:Nat) (ds:List Int) (S L:Int),(M:Int)-d=e→(d:Int)≤1000000→(M:Int)≤1000000→(ds.length:Int)=n→(∀u,0≤u→u<n→rd ds u=if 0≤rd r u∧rd r u<d then rd r u else -1)→Is n S (fun u=>0≤rd r u∧rd r u≤d)→Is n L (fun u=>rd r u=d)→Ev (fun k=>Qba.l0 k ds S L d n l) r:=by
  have n2:=h.2.1
  have hl:=h.2.2.1
  have n0:0≤n:=by have:=h.1;omega
  have stop:∀(d:Nat) (ds:List Int) (S:Int),(ds.length:Int)=n→(∀u,0≤u→u<n→rd ds u=if 0≤rd r u∧rd r u<d then rd r u else -1)→(∀u,0≤u→u<n→rd r u≠d)→Ev (fun k=>Qba.l0 k ds S 0 d n l) r:=by
    intro d ds S hlen hds hno
    have:ds=r:=by
      refine rd_ext (by have:=hr.len;omega) fun u u0 u1=>?_
      have u1:u<n:=by omega
      rw[hds u u0 u1]
      have a:=hr.stops d (by omega) hno u u0 u1
      have b:=hr.low u u0 u1
      split<;>omega
    subst this
    refine ev_k ?_
    simp only[Qba.l0]
    exact ev_pos trivial (Ev.now _)
  induction e with
  |zero=>
    intro d ds S L he hd hM2 hlen hds hS hL
    have hno:∀u,0≤u→u<n→rd r u≠d:=fun u u0 u1=>by have:=hM u u0 u1;omega
    have:L=0:=(hL.1.eq_zero n0).2 fun w w0 w1 z=>hno w w0 w1 ((hL.2 w w0 w1).1 z)
    subst this
    exact stop d ds S hlen hds hno
  |succ e ih=>
    intro d ds S L he hd hM2 hlen hds hS hL
    by_cases hz:L=0
    · subst hz
      exact stop d ds S hlen hds fun u u0 u1 z=>(hL.1.eq_zero n0).1 rfl u u0 u1 ((hL.2 u u0 u1).2 z)
    · have hp:=two_pow_le (n:=n) n0 n2
      have inner:∀(ws pre ds:List Int) (X:Int),pre++ws=ones L→(ds.length:Int)=n→(∀u,0≤u→u<n→rd ds u=if(0≤rd r u∧rd r u<d)∨u ∈ pre then rd r u else -1)→Is n X (fun u=>∃w,w ∈ pre∧tb (rd l w) u=true)→Ev (fun k=>Qba.l1 k ds S d X (ones L) (ones L).length pre.length n l) r:=by
        intro ws
        have ol:=ones_length L
        have om:=fun v=>ones_mem n0 n2 hL.1.1 hL.1.2 v
        induction ws with
        |nil=>
          intro pre ds X hpre hlen hds hX
          rw[List.append_nil]at hpre
          subst hpre
          have hX2:Is n X fun u=>∃w,(0≤w∧w<n)∧rd r w=d∧tb (rd l w) u=true:=hX.imp fun u u0 u1=>by
            constructor
            · rintro⟨w,hw,ht⟩
              obtain⟨a,b,c⟩:=(om w).1 hw
              exact⟨w,⟨a,b⟩,(hL.2 w a b).1 c,ht⟩
            · rintro⟨w,⟨a,b⟩,c,ht⟩
              exact⟨w,(om w).2 ⟨a,b,(hL.2 w a b).2 c⟩,ht⟩
          have o:=or_rw n2 hS.1 hX.1
          have q:=andNot_rw n2 hX.1 hS.1
          refine ev_k ?_
          simp only[Qba.l1]
          refine ev_neg (by omega) ?_
          rw[w64 (a:=(d:Int)+1) (by omega) (by omega)]
          refine ih (d+1) ds _ _ (by omega) (by omega) hM2 hlen (fun u u0 u1=>?_) ⟨o.1,fun u u0 u1=>?_⟩ ⟨q.1,fun u u0 u1=>?_⟩
          · rw[hds u u0 u1]
            have z:u ∈ ones L↔rd r u=d:=(om u).trans ⟨fun z=>(hL.2 u u0 u1).1 z.2.2,fun z=>⟨u0,u1,(hL.2 u u0 u1).2 z⟩⟩
            by_cases q:u ∈ ones L
            · have:=z.1 q
              rw[if_pos (.inr q),if_pos (by omega)]
            · have q2:rd r u≠d:=fun e=>q (z.2 e)
              by_cases p:0≤rd r u∧rd r u<d
              · rw[if_pos (.inl p),if_pos (by omega)]
              · rw[if_neg (by rintro(a|a);exact p a;exact q a),if_neg (by omega)]
          · rw[o.2 u u0]
            exact((level_next hr (by omega) hX2 u u0 u1 (hS.2 u u0 u1)).1).trans (by omega)
          · rw[q.2 u u0]
            exact((level_next hr (by omega) hX2 u u0 u1 (hS.2 u u0 u1)).2).trans (by omega)
        |cons w ws ihw=>
          intro pre ds X hpre hlen hds hX
          have hlt:pre.length<(ones L).length:=by rw[← hpre];simp
          have hw:rd (ones L) pre.length=w:=by
            rw[← hpre]
            simp[rd,List.getD_eq_getElem?_getD]
          obtain⟨w0,w1,wt⟩:=(om w).1 (by rw[← hpre];simp)
          have hwd:=(hL.2 w w0 w1).1 wt
          have o:=or_rw n2 hX.1 (h.2.2.2 w w0 w1)
          refine ev_k ?_
          simp only[Qba.l1,hw]
          refine ev_pos (by omega) (ev_pos (by omega) (ev_pos (by omega) (ev_pos w0 (ev_pos (by omega) (ev_pos (by omega) ?_)))))
          rw[w64 (a:=(pre.length:Int)+1) (by omega) (by omega)]
          have:=ihw (pre++[w]) (ds.set w.toNat d) (bits .or .i64 X (rd l w)) (by rw[← hpre];simp) (by simpa using hlen) (fun u u0 u1=>?_) ⟨o.1,fun u u0 u1=>?_⟩
          · simpa using this
          · rw[rd_set _ w0 (by omega) u0]
            by_cases e:u=w
            · subst e
              rw[if_pos rfl,if_pos (.inr (by simp)),hwd]
            · rw[if_neg e,hds u u0 u1]
              simp[e]
          · rw[o.2 u u0,hX.2 u u0 u1]
            constructor
            · rintro(⟨x,hx,ht⟩|ht)
              · exact⟨x,by simp[hx],ht⟩
              · exact⟨w,by simp,ht⟩
            · rintro⟨x,hx,ht⟩
              rcases List.mem_append.1 hx with hx|hx
              · exact .inl ⟨x,hx,ht⟩
              · obtain rfl:x=w:=by simpa using hx
                exact .inr ht
      refine ev_k ?_
      simp only[Qba.l0]
      refine ev_neg hz (Ev.bind (i_list hL.1.1 (by have:=hL.1.2;omega)) ?_)
      have:=inner (ones L) [] ds 0 (by simp) hlen (fun u u0 u1=>by rw[hds u u0 u1];simp) ⟨(zero_rw n).1,fun u u0 u1=>⟨fun z=>absurd z ((zero_rw n).2 u),fun⟨w,hw,_⟩=>by cases hw⟩⟩
      simpa using this
include s0 s1
theorem i_distances:Ev (fun k=>Qba.f k n l s) r:=by
  have n2:=h.2.1
  have n0:0≤n:=by have:=h.1;omega
  have hb:∀u,0≤u→u<n→rd r u<1000000:=fun u u0 u1=>by have:=hr.small u u0 u1;omega
  obtain⟨o1,o2⟩:=one_rw n2 s0 s1
  unfold Qba.f
  refine ev_bind0 (a:=List.replicate n.toNat (-1)) ?_ (ev_pos s0 ?_)
  · unfold Qbo.f
    rw[if_pos (show([-1]:List Int).length=1 from rfl),if_pos n0,if_pos (by omega)]
    rfl
  · refine i_distances_l0 h hr 1000000 hb 1000000 0 _ _ _ (by omega) (by omega) (by omega) (by simp;omega) (fun u u0 u1=>?_) ⟨o1,fun u u0 u1=>?_⟩ ⟨o1,fun u u0 u1=>?_⟩
    · have:u.toNat<n.toNat:=by omega
      rw[if_neg (by omega)]
      simp[rd,List.getD_eq_getElem?_getD,this]
    · rw[o2 u u0,← hr.src u u0 u1]
      omega
    · rw[o2 u u0,← hr.src u u0 u1]
      omega
end
end Go.Proofs.YtmofdldplbplbaaDoor.Q
namespace Go.Proofs.YtmofdldplbplbaaDoor.Q
open Go Go.RowKit Go.Proofs.YtmofdldplbplbaaDoor.P Go.Proofs.YtmofdldplbplbaaDoorW.PrintWords Go.Proofs.YtmofdldplbplbaaDoorW.PrintMore
def IsMax (r:List Int) (m:Int):Prop:=(∀j:Int,0≤j→j<r.length→rd r j≤m)∧∃j:Int,0≤j∧j<r.length∧m=rd r j
theorem IsMax.uniq {r:List Int} {a b:Int} (ha:IsMax r a) (hb:IsMax r b):a=b:=by
  obtain⟨a1,i,i0,i1,ia⟩:=ha
  obtain⟨b1,j,j0,j1,jb⟩:=hb
  have:=a1 j j0 j1
  have:=b1 i i0 i1
  omega
open Classical in
noncomputable def top (r:List Int):Int:=if h:∃m,IsMax r m then h.choose else 0
theorem top_eq {r:List Int} {m:Int} (h:IsMax r m):top r=m:=by
  have hex:∃m,IsMax r m:=⟨m,h⟩
  unfold top
  rw[dif_pos hex]
  exact hex.choose_spec.uniq h
theorem r_max_l0 (l:List Int) (hl:l.length≤1152921504606846976) (d:Nat):∀(m i:Int),0≤i→i≤l.length→l.length-i=d→∃r,Ev (fun k=>Qbs.l0 k l m i) r∧m≤r∧(∀j:Int,i≤j→j<l.length→rd l j≤r)∧(r=m∨∃j:Int,i≤j∧j<l.length∧r=rd l j):=by
  induction d with
  |zero=>
    intro m i i0 i1 hd
    refine⟨m,ev_k ?_,by omega,fun j _ _=>by omega,.inl rfl⟩
    simp only[Qbs.l0]
    exact ev_neg (by omega) (Ev.now _)
  |succ d ih=>
    intro m i i0 i1 hd
    obtain⟨r,hr,r1,r2,r3⟩:=ih (mx m (rd l i)) (i+1) (by omega) (by omega) (by omega)
    have e:m≤mx m (rd l i)∧rd l i≤mx m (rd l i)∧(mx m (rd l i)=m∨mx m (rd l i)=rd l i):=by
      unfold mx
      split<;>omega
    refine⟨r,ev_k ?_,by omega,fun j j0 j1=>if h:j=i then by rw[h];omega else r2 j (by omega) j1,?_⟩
    · simp only[Qbs.l0]
      rw[w64 (a:=i+1) (by omega) (by omega)]
      exact ev_pos (by omega) (ev_pos i0 hr)
    · rcases r3 with h|⟨j,j0,j1,h⟩
      · rcases e.2.2 with e|e
        · exact .inl (h.trans e)
        · exact .inr ⟨i,by omega,by omega,h.trans e⟩
      · exact .inr ⟨j,by omega,j1,h⟩
theorem r_max (l:List Int) (hl:l.length≤1152921504606846976) (h0:0<l.length):∃r,Ev (fun k=>Qbs.f k l) r∧IsMax l r:=by
  obtain⟨r,hr,r1,r2,r3⟩:=r_max_l0 l hl (l.length-1) (rd l 0) 1 (by omega) (by omega) (by omega)
  refine⟨r,?_,fun j j0 j1=>if h:j=0 then by rw[h];exact r1 else r2 j (by omega) j1,?_⟩
  · unfold Qbs.f
    exact ev_neg (by omega) (ev_pos (by omega) hr)
  · rcases r3 with h|⟨j,j0,j1,h⟩
    · exact⟨0,by omega,by omega,h⟩
    · exact⟨j,by omega,j1,h⟩
end Go.Proofs.YtmofdldplbplbaaDoor.Q
namespace Go.Proofs.YtmofdldplbplbaaDoor.Q
open Go Go.RowKit Go.Proofs.YtmofdldplbplbaaDoor.P Go.Proofs.YtmofdldplbplbaaDoorW.PrintWords Go.Proofs.YtmofdldplbplbaaDoorW.PrintMore
def Cut (n:Int) (r:List Int):Prop:=∃u,(0≤u∧u<n)∧rd r u=-1
open Classical in
noncomputable def reach (n:Int) (l:List Int):Nat→Int→Int→Int
  |0,_,acc=>acc
  |d+1,v,acc=>if Cut n (dist n l v)then -1 else reach n l d (v+1) (mx acc (top (dist n l v)))
section
variable {n:Int} {l:List Int} (h:rows n l)
include h
theorem i_diameter:Ev (fun k=>Qat.f k n l) (reach n l n.toNat 0 0):=by
  have n1:=h.1
  have n2:=h.2.1
  have loop:∀(d:Nat) (v acc:Int),0≤v→v≤n→n-v=d→Ev (fun k=>Qat.l0 k acc n v n l) (reach n l d v acc):=by
    intro d
    induction d with
    |zero=>
      intro v acc v0 v1 hd
      refine ev_k ?_
      simp only[Qat.l0]
      exact ev_neg (by omega) (Ev.now _)
    |succ d ih=>
      intro v acc v0 v1 hd
      have hdist:=dist_of n l v (by omega)
      have hlen:=hdist.len
      obtain⟨b,hb,be⟩:=r_contains (dist n l v) (by omega) (-1)
      obtain⟨m,hm,hmax⟩:=r_max (dist n l v) (by omega) (by omega)
      have hc:b=true↔Cut n (dist n l v):=be.trans ⟨fun⟨j,a,c,e⟩=>⟨j,by omega,e⟩,fun⟨u,a,e⟩=>⟨u,by omega,by omega,e⟩⟩
      refine ev_k ?_
      simp only[Qat.l0,reach]
      refine ev_pos (by omega) (Ev.bind (i_distances h v0 (by omega) hdist) (Ev.bind hb ?_))
      by_cases z:b=true
      · rw[if_pos (hc.1 z)]
        exact ev_pos z (Ev.now _)
      · rw[if_neg (fun y=>z (hc.2 y)),top_eq hmax]
        refine ev_neg z (Ev.bind hm ?_)
        rw[w64 (a:=v+1) (by omega) (by omega)]
        exact ih (v+1) _ (by omega) (by omega) (by omega)
  unfold Qat.f
  exact loop n.toNat 0 0 (by omega) (by omega) (by omega)
theorem s_reach_l2 {s:Int} {r:List Int} (hr:Dist n l s r) (acc:Int) {R:Int} (hcut:Cut n r→R=-1) (hgo:∀m,¬Cut n r→IsMax r m→Ev (fun k=>Qae.l0 k (mx acc m) (wrap64 (s+1)) n l) R) (e:Nat):∀(i:Int) (ds q:List Int),n-i=e→QI n l s r ds q i→Ev (fun k=>Qae.l2 k acc s ds q i n l) R:=by
  have n1:=h.1
  have n2:=h.2.1
  have hl:=h.2.2.1
  have stop:∀(i:Int) (ds q:List Int),QI n l s r ds q i→¬i<q.length→Ev (fun k=>Qae.l2 k acc s ds q i n l) R:=by
    intro i ds q hq hi
    obtain rfl:=hq.done hr hi
    have hcnt:=hq.cnt
    have hlen:=hq.len
    have hmem:=hq.src
    have qpos:0<q.length:=List.length_pos_of_mem hmem
    refine ev_k ?_
    simp only[Qae.l2]
    refine ev_neg hi ?_
    by_cases hc:(q.length:Int)<n
    · have:0<ds.count (-1):=by omega
      obtain⟨j,hj,hje⟩:=mem_rd (List.count_pos_iff.1 this)
      rw[hcut ⟨j,by omega,hje⟩]
      exact ev_pos hc (Ev.now _)
    · have hz:ds.count (-1)=0:=by omega
      have hnc:¬Cut n ds:=by
        rintro⟨u,hu,e⟩
        have:-1 ∈ ds:=by rw[← e];exact rd_mem hu.1 (by omega)
        have:=List.count_pos_iff.2 this
        omega
      obtain⟨hw,hwd,hw0⟩:=hq.at_ (a:=(q.length:Int)-1) (by omega) (by omega)
      refine ev_neg hc ?_
      rw[w64 (a:=(q.length:Int)-1) (by omega) (by omega)]
      refine ev_pos (by omega) (ev_pos (by omega) (ev_pos hw.1 (ev_pos (by omega) ?_)))
      refine hgo _ hnc ⟨fun j j0 j1=>?_,_,hw.1,by omega,rfl⟩
      have lj:=hr.low j j0 (by omega)
      have:rd ds j≠-1:=fun e=>hnc ⟨j,by omega,e⟩
      obtain⟨a,ha,hae⟩:=mem_rd ((hq.mem j).2 ⟨by omega,by omega⟩)
      rw[← hae]
      exact hq.mono a _ ha.1 (by omega) (by omega)
  induction e with
  |zero=>
    intro i ds q he hq
    exact stop i ds q hq (by have:=hq.cnt;omega)
  |succ e ih=>
    intro i ds q he hq
    by_cases hi:i<q.length
    · have i0:=hq.at0.1
      have inner:∀(c:Nat) (u:Int) (ds q:List Int),QI n l s r ds q i→i<q.length→0≤u→u≤n→n-u=c→(∀v,0≤v→v<u→tb (rd l (rd q i)) v=true→0≤rd ds v)→Ev (fun k=>Qae.l3 k acc s ds q i u n l) R:=by
        intro c
        induction c with
        |zero=>
          intro u ds q hq hi u0 u1 hc hp
          refine ev_k ?_
          simp only[Qae.l3]
          rw[w64 (a:=i+1) (by have:=hq.cnt;omega) (by have:=hq.cnt;omega)]
          exact ev_neg (by omega) (ih (i+1) ds q (by omega) (hq.step hr hi fun v v0 v1 tv=>hp v v0 (by omega) tv))
        |succ c ihc=>
          intro u ds q hq hi u0 u1 hc hp
          obtain⟨hwr,hwd,hw0⟩:=hq.head hi
          have hlen:=hq.len
          have hcnt:=hq.cnt
          have hh:=d_has n l (rd q i) u hwr.1 (by omega) u0 (by omega)
          refine ev_k ?_
          simp only[Qae.l3,hh,Option.bind_some]
          rw[w64 (a:=u+1) (by omega) (by omega)]
          refine ev_pos (by omega) (ev_pos i0 (ev_pos hi ?_))
          by_cases ht:tb (rd l (rd q i)) u=true
          · refine ev_pos ht (ev_pos u0 (ev_pos (by omega) ?_))
            by_cases hu:rd ds u<0
            · refine ev_pos hu (ev_pos hwr.1 (ev_pos (by omega) (ev_pos (by omega) ?_)))
              obtain⟨e2,hq2⟩:=hq.add hr hi u0 (by omega) ht hu
              have hsm:=hr.small (rd q i) hwr.1 hwr.2
              rw[hwd,w64 (a:=rd r (rd q i)+1) (by omega) (by omega),← e2]
              refine ihc (u+1) _ _ hq2 (by simp;omega) (by omega) (by omega) (by omega) fun v v0 v1 tv=>?_
              rw[rd_app_left i0 hi]at tv
              rw[rd_set _ u0 (by omega) v0]
              by_cases z:v=u
              · rw[if_pos z]
                omega
              · rw[if_neg z]
                exact hp v v0 (by omega) tv
            · refine ev_neg hu (ihc (u+1) ds q hq hi (by omega) (by omega) (by omega) fun v v0 v1 tv=>?_)
              by_cases z:v=u
              · rw[z];omega
              · exact hp v v0 (by omega) tv
          · refine ev_neg ht (ihc (u+1) ds q hq hi (by omega) (by omega) (by omega) fun v v0 v1 tv=>?_)
            by_cases z:v=u
            · rw[z]at tv
              exact absurd tv ht
            · exact hp v v0 (by omega) tv
      refine ev_k ?_
      simp only[Qae.l2]
      exact ev_pos hi (inner n.toNat 0 ds q hq hi (by omega) (by omega) (by omega) fun v v0 v1=>by omega)
    · exact stop i ds q hq hi
theorem s_reach:Ev (fun k=>Qae.f k n l) (reach n l n.toNat 0 0):=by
  have n1:=h.1
  have n2:=h.2.1
  have loop:∀(d:Nat) (v acc:Int),0≤v→v≤n→n-v=d→Ev (fun k=>Qae.l0 k acc v n l) (reach n l d v acc):=by
    intro d
    induction d with
    |zero=>
      intro v acc v0 v1 hd
      refine ev_k ?_
      simp only[Qae.l0]
      exact ev_neg (by omega) (Ev.now _)
    |succ d ih=>
      intro v acc v0 v1 hd
      have hdist:=dist_of n l v (by omega)
      have l2:=s_reach_l2 h hdist acc (R:=reach n l (d+1) v acc) (fun z=>by simp only[reach];rw[if_pos z]) (fun m z hm=>by
        simp only[reach]
        rw[if_neg z,top_eq hm,w64 (a:=v+1) (by omega) (by omega)]
        exact ih (v+1) _ (by omega) (by omega) (by omega)) n.toNat 0 _ _ (by omega) (QI.start hdist v0 (by omega))
      have fill:∀(e:Nat) (i:Nat) (ds:List Int),(i:Int)≤n→n-i=e→(ds.length:Int)=n→(∀u:Int,0≤u→u<i→rd ds u=-1)→Ev (fun k=>Qae.l1 k acc v ds [v] i n l) (reach n l (d+1) v acc):=by
        intro e
        induction e with
        |zero=>
          intro i ds h1 he hlen hds
          have:ds=List.replicate n.toNat (-1):=by
            refine rd_ext (by simp;omega) fun u u0 u1=>?_
            rw[hds u u0 (by omega)]
            have:u.toNat<n.toNat:=by omega
            simp[rd,List.getD_eq_getElem?_getD,this]
          subst this
          refine ev_k ?_
          simp only[Qae.l1]
          exact ev_neg (by omega) (ev_pos v0 (ev_pos (by omega) l2))
        |succ e ihe=>
          intro i ds h1 he hlen hds
          have:=ihe (i+1) (ds.set i (-1)) (by omega) (by omega) (by simpa using hlen) fun u u0 u1=>by
            have:=rd_set (l:=ds) (i:=(i:Int)) (j:=u) (-1) (by omega) (by omega) u0
            rw[Int.toNat_natCast]at this
            rw[this]
            by_cases z:u=i
            · rw[if_pos z]
            · rw[if_neg z]
              exact hds u u0 (by omega)
          refine ev_k ?_
          simp only[Qae.l1]
          refine ev_pos (by omega) (ev_pos (by omega) ?_)
          rw[w64 (a:=(i:Int)+1) (by omega) (by omega),Int.toNat_natCast]
          exact this
      refine ev_k ?_
      simp only[Qae.l0]
      refine ev_pos (by omega) (ev_pos (by omega) (ev_pos (by omega) ?_))
      exact fill n.toNat 0 _ (by omega) (by omega) (by simp;omega) fun u u0 u1=>by omega
  unfold Qae.f
  exact loop n.toNat 0 0 (by omega) (by omega) (by omega)
end
end Go.Proofs.YtmofdldplbplbaaDoor.Q
namespace Go.Proofs.YtmofdldplbplbaaDoor.Q
open Go Go.RowKit Go.Proofs.YtmofdldplbplbaaDoor.P Go.Proofs.YtmofdldplbplbaaDoorW.PrintWords Go.Proofs.YtmofdldplbplbaaDoorW.PrintMore
theorem i_directed (n:Int) (n0:0≤n) (n2:n≤62) (is_:Int→Int→Option Bool) (Q:Int→Int→Prop) (hq:∀v w,0≤v→v<n→0≤w→w<n→∃b,is_ v w=some b∧(b=true↔Q v w)):∃r,Mx n r Q∧Ev (fun k=>Qbb.f is_ k n) (n,r):=by
  have outer:∀(d:Nat) (v:Int) (l:List Int),0≤v→v≤n→n-v=d→Mx n l (fun a b=>a<v∧Q a b)→∃r,Mx n r Q∧Ev (fun k=>Qbb.l0 is_ k n n v n l) (n,r):=by
    intro d
    induction d with
    |zero=>
      intro v l v0 v1 hd hm
      refine⟨l,hm.imp fun a b a0 a1 _ _=>⟨fun z=>z.2,fun z=>⟨by omega,z⟩⟩,ev_k ?_⟩
      simp only[Qbb.l0]
      exact ev_neg (by omega) (Ev.now _)
    |succ d ih=>
      intro v l v0 v1 hd hm
      have inner:∀(e:Nat) (w:Int) (l:List Int),0≤w→w≤n→n-w=e→Mx n l (fun a b=>(a<v∨(a=v∧b<w))∧Q a b)→∃r,Mx n r Q∧Ev (fun k=>Qbb.l1 is_ k n v n v n w n l) (n,r):=by
        intro e
        induction e with
        |zero=>
          intro w l w0 w1 he hm
          obtain⟨r,hr,hx⟩:=ih (v+1) l (by omega) (by omega) (by omega) (hm.imp fun a b a0 a1 b0 b1=>and_congr ⟨fun _=>by omega,fun _=>by omega⟩ Iff.rfl)
          refine⟨r,hr,ev_k ?_⟩
          simp only[Qbb.l1]
          refine ev_neg (by omega) ?_
          rwa [w64 (a:=v+1) (by omega) (by omega)]
        |succ e ihe=>
          intro w l w0 w1 he hm
          obtain⟨b,hb,hbq⟩:=hq v w v0 (by omega) w0 (by omega)
          cases b with
          |true=>
            obtain⟨r,hr,hx⟩:=ihe (w+1) _ (by omega) (by omega) (by omega) ((hm.or n2 v0 (by omega) w0 (by omega:w<n)).imp (Q:=fun a b=>(a<v∨(a=v∧b<w+1))∧Q a b) fun a b a0 a1 b0 b1=>by
              constructor
              · rintro(⟨h,q⟩|⟨rfl,rfl⟩)
                · exact⟨by omega,q⟩
                · exact⟨by omega,hbq.1 rfl⟩
              · rintro⟨h,q⟩
                by_cases z:a=v∧b=w
                · exact .inr z
                · exact .inl ⟨by omega,q⟩)
            refine⟨r,hr,ev_k ?_⟩
            simp only[Qbb.l1,hb,Option.bind_some]
            refine ev_pos (by omega) (ev_pos trivial (ev_pos v0 (ev_pos (by have:=hm.1;omega) (ev_pos w0 ?_))))
            rwa [w64 (a:=w+1) (by omega) (by omega)]
          |false=>
            have nq:¬Q v w:=fun z=>by have:=hbq.2 z;cases this
            obtain⟨r,hr,hx⟩:=ihe (w+1) l (by omega) (by omega) (by omega) (hm.imp fun a b a0 a1 b0 b1=>by
              constructor
              · rintro⟨h,q⟩
                exact⟨by omega,q⟩
              · rintro⟨h,q⟩
                by_cases z:a=v∧b=w
                · obtain⟨rfl,rfl⟩:=z
                  exact absurd q nq
                · exact⟨by omega,q⟩)
            refine⟨r,hr,ev_k ?_⟩
            simp only[Qbb.l1,hb,Option.bind_some]
            refine ev_pos (by omega) (ev_neg (by simp) ?_)
            rwa [w64 (a:=w+1) (by omega) (by omega)]
      obtain⟨r,hr,hx⟩:=inner n.toNat 0 l (by omega) (by omega) (by omega) (hm.imp fun a b a0 a1 b0 b1=>and_congr (by omega) Iff.rfl)
      refine⟨r,hr,ev_k ?_⟩
      simp only[Qbb.l0]
      exact ev_pos (by omega) hx
  obtain⟨r,hr,hx⟩:=outer n.toNat 0 _ (by omega) (by omega) (by omega) ((Mx.zero n n0).imp fun a b a0 a1 b0 b1=>⟨False.elim,fun z=>by omega⟩)
  refine⟨r,hr,?_⟩
  unfold Qbb.f
  exact ev_pos n0 (ev_pos (by omega) hx)
end Go.Proofs.YtmofdldplbplbaaDoor.Q
namespace Go.Proofs.YtmofdldplbplbaaDoor.Q
open Go Go.RowKit Go.Proofs.YtmofdldplbplbaaDoor.P Go.Proofs.YtmofdldplbplbaaDoorW.PrintWords Go.Proofs.YtmofdldplbplbaaDoorW.PrintMore
theorem i_reversed {n:Int} {l:List Int} (h:rows n l):∃r,Mx n r (fun v w=>tb (rd l w) v=true)∧Ev (fun k=>Qbe.f k n l) (n,r):=by
  obtain⟨r,hr,hx⟩:=i_directed n (by have:=h.1;omega) h.2.1 (Qbe.is l) (fun v w=>tb (rd l w) v=true) fun v w v0 v1 w0 w1=>by
    refine⟨_,?_,Iff.rfl⟩
    unfold Qbe.is
    rw[if_pos w0,if_pos (by have:=h.2.2.1;omega),if_pos v0,bit_is v0 (by have:=h.2.1;omega)]
  refine⟨r,hr,?_⟩
  unfold Qbe.f
  exact Ev.bind hx (Ev.now _)
theorem s_reverse {n:Int} {l:List Int} (h:rows n l):∃r,Mx n r (fun v w=>tb (rd l w) v=true)∧Ev (fun k=>Qai.f k n l) (n,r):=by
  have n1:=h.1
  have n2:=h.2.1
  have hl:=h.2.2.1
  have outer:∀(d:Nat) (v:Int) (m:List Int),0≤v→v≤n→n-v=d→Mx n m (fun b a=>a<v∧tb (rd l a) b=true)→∃r,Mx n r (fun b a=>tb (rd l a) b=true)∧Ev (fun k=>Qai.l0 k v n l n m) (n,r):=by
    intro d
    induction d with
    |zero=>
      intro v m v0 v1 hd hm
      refine⟨m,hm.imp fun b a b0 b1 a0 a1=>⟨fun z=>z.2,fun z=>⟨by omega,z⟩⟩,ev_k ?_⟩
      simp only[Qai.l0]
      exact ev_neg (by omega) (Ev.now _)
    |succ d ih=>
      intro v m v0 v1 hd hm
      have inner:∀(e:Nat) (w:Int) (m:List Int),0≤w→w≤n→n-w=e→Mx n m (fun b a=>(a<v∨(a=v∧b<w))∧tb (rd l a) b=true)→∃r,Mx n r (fun b a=>tb (rd l a) b=true)∧Ev (fun k=>Qai.l1 k v w n l n m) (n,r):=by
        intro e
        induction e with
        |zero=>
          intro w m w0 w1 he hm
          obtain⟨r,hr,hx⟩:=ih (v+1) m (by omega) (by omega) (by omega) (hm.imp fun b a b0 b1 a0 a1=>and_congr ⟨fun _=>by omega,fun _=>by omega⟩ Iff.rfl)
          refine⟨r,hr,ev_k ?_⟩
          simp only[Qai.l1]
          refine ev_neg (by omega) ?_
          rwa [w64 (a:=v+1) (by omega) (by omega)]
        |succ e ihe=>
          intro w m w0 w1 he hm
          have hh:=d_has n l v w v0 (by omega) w0 (by omega)
          by_cases hb:tb (rd l v) w=true
          · obtain⟨r,hr,hx⟩:=ihe (w+1) _ (by omega) (by omega) (by omega) ((hm.or n2 w0 (by omega:w<n) v0 (by omega)).imp (Q:=fun b a=>(a<v∨(a=v∧b<w+1))∧tb (rd l a) b=true) fun b a b0 b1 a0 a1=>by
              constructor
              · rintro(⟨h,q⟩|⟨rfl,rfl⟩)
                · exact⟨by omega,q⟩
                · exact⟨by omega,hb⟩
              · rintro⟨h,q⟩
                by_cases z:b=w∧a=v
                · exact .inr z
                · exact .inl ⟨by omega,q⟩)
            refine⟨r,hr,ev_k ?_⟩
            simp only[Qai.l1,hh,Option.bind_some]
            rw[wu64 v0 (by omega),w64 (a:=w+1) (by omega) (by omega)]
            exact ev_pos (by omega) (ev_pos hb (ev_pos w0 (ev_pos (by have:=hm.1;omega) (ev_pos v0 hx))))
          · obtain⟨r,hr,hx⟩:=ihe (w+1) m (by omega) (by omega) (by omega) (hm.imp fun b a b0 b1 a0 a1=>by
              constructor
              · rintro⟨h,q⟩
                exact⟨by omega,q⟩
              · rintro⟨h,q⟩
                by_cases z:a=v∧b=w
                · obtain⟨rfl,rfl⟩:=z
                  exact absurd q hb
                · exact⟨by omega,q⟩)
            refine⟨r,hr,ev_k ?_⟩
            simp only[Qai.l1,hh,Option.bind_some]
            rw[w64 (a:=w+1) (by omega) (by omega)]
            exact ev_pos (by omega) (ev_neg hb hx)
      obtain⟨r,hr,hx⟩:=inner n.toNat 0 m (by omega) (by omega) (by omega) (hm.imp fun b a b0 b1 a0 a1=>and_congr (by omega) Iff.rfl)
      refine⟨r,hr,ev_k ?_⟩
      simp only[Qai.l0]
      exact ev_pos (by omega) hx
  obtain⟨r,hr,hx⟩:=outer n.toNat 0 _ (by omega) (by omega) (by omega) ((Mx.zero n (by omega)).imp fun a b a0 a1 b0 b1=>⟨False.elim,fun z=>by omega⟩)
  refine⟨r,hr,?_⟩
  unfold Qai.f
  exact ev_pos (by omega) (ev_pos (by omega) hx)
end Go.Proofs.YtmofdldplbplbaaDoor.Q
namespace Go.Proofs.YtmofdldplbplbaaDoor.Q
open Go Go.RowKit Go.Proofs.YtmofdldplbplbaaDoor.P Go.Proofs.YtmofdldplbplbaaDoorW.PrintWords Go.Proofs.YtmofdldplbplbaaDoorW.PrintMore
theorem s_bits_l0 (n:Nat):∀(x:Nat) (acc:Int),x<2 ^ n→n≤63→0≤acc→acc+n<4611686018427387904→Ev (fun k=>Qbv.l0 k (x:Int) acc) (acc+pc n x):=by
  induction n with
  |zero=>
    intro x acc hx _ _ _
    refine ev_k ?_
    simp only[Qbv.l0]
    exact ev_neg (by omega) (ev_some (by simp[pc]))
  |succ n ih=>
    intro x acc hx hn h0 h1
    refine ev_k ?_
    simp only[Qbv.l0]
    have e1:Int.tdiv (x:Int) 2=((x/2:Nat):Int):=by rw[Int.tdiv_eq_ediv_of_nonneg (by omega)];omega
    have e2:Int.tmod (x:Int) 2=((x % 2:Nat):Int):=by rw[Int.tmod_eq_emod_of_nonneg (by omega)];omega
    have p:(2:Nat) ^ n≤2 ^ 62:=Nat.pow_le_pow_right (by decide) (by omega)
    rw[Nat.pow_succ]at hx
    by_cases h:(x:Int)>0
    · refine ev_pos h ?_
      rw[e1,e2,w64 (a:=((x/2:Nat):Int)) (by omega) (by omega),w64 (a:=acc+((x % 2:Nat):Int)) (by omega) (by omega)]
      have:=ih (x/2) (acc+((x % 2:Nat):Int)) (by omega) (by omega) (by omega) (by omega)
      simp only[pc]
      rwa [show acc+(((x % 2+pc n (x/2):Nat)):Int)=acc+((x % 2:Nat):Int)+(pc n (x/2):Nat) by omega]
    · refine ev_neg h (ev_some ?_)
      obtain rfl:x=0:=by omega
      rw[pc_zero]
      simp
theorem s_bits (x:Nat) (hx:x<2 ^ 62):Ev (fun k=>Qbv.f k (x:Int)) (pc 64 x:Nat):=by
  unfold Qbv.f
  have:=s_bits_l0 62 x 0 hx (by omega) (by omega) (by omega)
  rw[pc_big hx (by omega:62≤64)]
  rwa [Int.zero_add]at this
theorem i_size (x:Nat) (hx:x<2 ^ 62):Qdb.f (x:Int)=some ((pc 64 x:Nat):Int):=by
  unfold Qdb.f Qcx.f
  rw[wu64 (a:=(x:Int)) (by omega) (by omega)]
  rw[(mA x (by omega)).1,(mB x (by omega)).1,mC]
  have b:=sC_bound x
  have s:=swar x
  have p:=pc_le 64 x
  have e1:((sC 8 x:Nat):Int)+((sC 8 x:Nat):Int)/256=((sC 8 x+sC 8 x/256:Nat):Int):=by omega
  rw[e1,wu64 (a:=((sC 8 x+sC 8 x/256:Nat):Int)) (by omega) (by omega)]
  generalize sC 8 x+sC 8 x/256=y at *
  have e2:((y:Nat):Int)+((y:Nat):Int)/65536=((y+y/65536:Nat):Int):=by omega
  rw[e2,wu64 (a:=((y+y/65536:Nat):Int)) (by omega) (by omega)]
  generalize y+y/65536=z at *
  have e3:((z:Nat):Int)+((z:Nat):Int)/4294967296=((z+z/4294967296:Nat):Int):=by omega
  rw[e3,wu64 (a:=((z+z/4294967296:Nat):Int)) (by omega) (by omega),w64 (by omega) (by omega)]
  generalize z+z/4294967296=t at *
  have e4:bits .and .i64 ((t:Nat):Int) 127=((t % 128:Nat):Int):=by
    have:=and_nat t 127 (by omega) (by decide)
    rw[show((127:Nat):Int)=127 from rfl]at this
    rw[this]
    have:=Nat.and_two_pow_sub_one_eq_mod t 7
    simpa using congrArg (fun n:Nat=>(n:Int)) this
  rw[e4,s]
  rfl
def deg (l:List Int) (v:Int):Int:=(pc 64 (rd l v).toNat:Nat)
theorem deg_range (l:List Int) (v:Int):0≤deg l v∧deg l v≤64:=by
  have:=pc_le 64 (rd l v).toNat
  unfold deg
  omega
end Go.Proofs.YtmofdldplbplbaaDoor.Q
namespace Go.Proofs.YtmofdldplbplbaaDoor.Q
open Go Go.RowKit Go.Proofs.YtmofdldplbplbaaDoor.P Go.Proofs.YtmofdldplbplbaaDoorW.PrintWords Go.Proofs.YtmofdldplbplbaaDoorW.PrintMore
def regD (n:Int) (l r:List Int):Prop:=∀v,0≤v→v<n→deg l v=deg l 0∧deg r v=deg l 0
theorem deg_s {n:Int} {l:List Int} (h:rows n l) {v:Int} (v0:0≤v) (v1:v<n):Ev (fun k=>Qbv.f k (rd l v)) (deg l v):=by
  obtain⟨x,e,_,hx⟩:=h.nat v0 v1
  unfold deg
  rw[e,Int.toNat_natCast]
  exact s_bits x hx
theorem deg_i {n:Int} {l:List Int} (h:rows n l) {v:Int} (v0:0≤v) (v1:v<n):Qdb.f (rd l v)=some (deg l v):=by
  obtain⟨x,e,_,hx⟩:=h.nat v0 v1
  unfold deg
  rw[e,Int.toNat_natCast]
  exact i_size x hx
theorem i_degD {n:Int} {l:List Int} (h:rows n l):∃g r,Mx n r (fun v w=>tb (rd l w) v=true)∧((regD n l r∧g=deg l 0)∨(¬regD n l r∧g=-1))∧Ev (fun k=>Qaq.f k n l) g:=by
  have n1:=h.1
  have n2:=h.2.1
  have hl:=h.2.2.1
  obtain⟨r,hr,hi⟩:=i_reversed h
  have hrr:=hr.rows n1 n2
  have hrl:=hr.1
  have hlen:((l++r).length:Int)=2*n:=by rw[List.length_append];omega
  have at1:∀v,0≤v→v<n→rd (l++r) v=rd l v:=fun v v0 v1=>by
    have:v.toNat<l.length:=by omega
    simp only[rd,List.getD_eq_getElem?_getD,List.getElem?_append_left this]
  have at2:∀v,0≤v→v<n→rd (l++r) (n+v)=rd r v:=fun v v0 v1=>by
    simp only[rd,List.getD_eq_getElem?_getD]
    rw[List.getElem?_append_right (by omega),show(n+v).toNat-l.length=v.toNat by omega]
  have il:∀(d:Nat) (i:Int),0≤i→i≤2*n→2*n-i=d→(∀w,0≤w→w<n→(w<i→deg l w=deg l 0)∧(n+w<i→deg r w=deg l 0))→∃g,((regD n l r∧g=deg l 0)∨(¬regD n l r∧g=-1))∧Ev (fun k=>Qaq.l0 k (deg l 0) (l++r) ((l++r).length:Int) i) g:=by
    intro d
    induction d with
    |zero=>
      intro i i0 i1 hd hb
      refine⟨deg l 0,.inl ⟨fun w w0 w1=>⟨(hb w w0 w1).1 (by omega),(hb w w0 w1).2 (by omega)⟩,rfl⟩,ev_k ?_⟩
      simp only[Qaq.l0]
      exact ev_neg (by omega) (Ev.now _)
    |succ d ih=>
      intro i i0 i1 hd hb
      have hsz:∃g,Qdb.f (rd (l++r) i)=some g∧((i<n∧g=deg l i)∨(n≤i∧g=deg r (i-n))):=by
        by_cases y:i<n
        · exact⟨_,by rw[at1 i i0 y];exact deg_i h i0 y,.inl ⟨y,rfl⟩⟩
        · refine⟨_,?_,.inr ⟨by omega,rfl⟩⟩
          have:=at2 (i-n) (by omega) (by omega)
          rw[show n+(i-n)=i by omega]at this
          rw[this]
          exact deg_i hrr (by omega) (by omega)
      obtain⟨g0,hg0,hcase⟩:=hsz
      by_cases z:g0=deg l 0
      · obtain⟨g,hg,hE⟩:=ih (i+1) (by omega) (by omega) (by omega) (fun w w0 w1=>by
          have hb':=hb w w0 w1
          constructor
          · intro q
            by_cases y:w=i
            · rcases hcase with⟨c1,c2⟩|⟨c1,_⟩
              · rw[y,← c2,z]
              · omega
            · exact hb'.1 (by omega)
          · intro q
            by_cases y:n+w=i
            · rcases hcase with⟨c1,_⟩|⟨c1,c2⟩
              · omega
              · rw[show w=i-n by omega,← c2,z]
            · exact hb'.2 (by omega))
        refine⟨g,hg,ev_k ?_⟩
        simp only[Qaq.l0]
        rw[hg0,w64 (a:=i+1) (by omega) (by omega)]
        exact ev_pos (by omega) (ev_pos i0 (ev_pos (by omega) (ev_pos z hE)))
      · refine⟨-1,.inr ⟨fun y=>z ?_,rfl⟩,ev_k ?_⟩
        · rcases hcase with⟨c1,c2⟩|⟨c1,c2⟩
          · rw[c2];exact(y i i0 c1).1
          · rw[c2];exact(y (i-n) (by omega) (by omega)).2
        · simp only[Qaq.l0]
          rw[hg0]
          exact ev_pos (by omega) (ev_pos i0 (ev_pos (by omega) (ev_neg z (Ev.now _))))
  obtain⟨g,hg,hE⟩:=il (2*n).toNat 0 (by omega) (by omega) (by omega) (fun w w0 w1=>⟨fun _=>by omega,fun _=>by omega⟩)
  refine⟨g,r,hr,hg,?_⟩
  unfold Qaq.f
  have hc:Qbp.f [l,r]=some (l++r):=by
    unfold Qbp.f
    rw[show[l,r].flatten=l++r by simp,if_pos (by omega),if_pos (by omega),if_pos (by simp)]
  exact ev_pos (by omega) (ev_bind0 (deg_i h (by omega) (by omega)) (Ev.bind hi (ev_bind0 hc hE)))
theorem degreesD {n:Int} {l:List Int} (h:rows n l):∃g,g≤64∧Ev (fun k=>Qbr.f k n l) g∧Ev (fun k=>Qaq.f k n l) g:=by
  have n1:=h.1
  have n2:=h.2.1
  have hl:=h.2.2.1
  obtain⟨g',r',hr',hg',hi⟩:=i_degD h
  obtain⟨r,hr,hs⟩:=s_reverse h
  obtain rfl:=hr.eq hr' (by omega)
  have hrr:=hr.rows n1 n2
  have hrl:=hr.1
  have d0:=deg_range l 0
  have sl:∀(d:Nat) (v:Int),0≤v→v≤n→n-v=d→(∀w,0≤w→w<v→deg l w=deg l 0∧deg r w=deg l 0)→∃g,((regD n l r∧g=deg l 0)∨(¬regD n l r∧g=-1))∧Ev (fun k=>Qbr.l0 k (deg l 0) v n l n r) g:=by
    intro d
    induction d with
    |zero=>
      intro v v0 v1 hd hb
      refine⟨deg l 0,.inl ⟨fun w w0 w1=>hb w w0 (by omega),rfl⟩,ev_k ?_⟩
      simp only[Qbr.l0]
      exact ev_neg (by omega) (Ev.now _)
    |succ d ih=>
      intro v v0 v1 hd hb
      by_cases z1:deg l v=deg l 0
      · by_cases z2:deg r v=deg l 0
        · obtain⟨g,hg,hE⟩:=ih (v+1) (by omega) (by omega) (by omega) (fun w w0 w1=>by
            by_cases y:w=v
            · rw[y];exact⟨z1,z2⟩
            · exact hb w w0 (by omega))
          refine⟨g,hg,ev_k ?_⟩
          simp only[Qbr.l0]
          rw[w64 (a:=v+1) (by omega) (by omega)]
          exact ev_pos (by omega) (ev_pos v0 (Ev.bind (deg_s h v0 (by omega)) (ev_pos z1 (ev_pos (by omega) (Ev.bind (deg_s hrr v0 (by omega)) (ev_pos z2 hE))))))
        · refine⟨-1,.inr ⟨fun y=>z2 (y v v0 (by omega)).2,rfl⟩,ev_k ?_⟩
          simp only[Qbr.l0]
          exact ev_pos (by omega) (ev_pos v0 (Ev.bind (deg_s h v0 (by omega)) (ev_pos z1 (ev_pos (by omega) (Ev.bind (deg_s hrr v0 (by omega)) (ev_neg z2 (Ev.now _)))))))
      · refine⟨-1,.inr ⟨fun y=>z1 (y v v0 (by omega)).1,rfl⟩,ev_k ?_⟩
        simp only[Qbr.l0]
        exact ev_pos (by omega) (ev_pos v0 (Ev.bind (deg_s h v0 (by omega)) (ev_neg z1 (Ev.now _))))
  obtain⟨g,hg,hE⟩:=sl n.toNat 0 (by omega) (by omega) (by omega) (fun w w0 w1=>by omega)
  obtain rfl:g=g':=by
    rcases hg with⟨a,b⟩|⟨a,b⟩<;>rcases hg' with⟨c,d⟩|⟨c,d⟩
    · rw[b,d]
    · exact absurd a c
    · exact absurd c a
    · rw[b,d]
  refine⟨g,by rcases hg with⟨_,b⟩|⟨_,b⟩<;>omega,?_,hi⟩
  unfold Qbr.f
  exact Ev.bind hs (ev_pos (by omega) (Ev.bind (deg_s h (by omega) (by omega)) hE))
end Go.Proofs.YtmofdldplbplbaaDoor.Q
namespace Go.Proofs.YtmofdldplbplbaaDoor.Q
open Go Go.RowKit Go.Proofs.YtmofdldplbplbaaDoor.P Go.Proofs.YtmofdldplbplbaaDoorW.PrintWords Go.Proofs.YtmofdldplbplbaaDoorW.PrintMore
def addAll (c:Int):List Int→List Int→List Int
  |a,[]=>a
  |a,w :: ws=>addAll c (a.set w.toNat (wrap64 (rd a w+c))) ws
theorem addAll_length (c:Int) (ws:List Int):∀a,(addAll c a ws).length=a.length:=by
  induction ws with
  |nil=>intro a;rfl
  |cons w ws ih=>intro a;simp[addAll,ih]
def nextFrom (l cur:List Int):Nat→Nat→List Int→List Int
  |0,_,a=>a
  |d+1,v,a=>nextFrom l cur d (v+1) (addAll (rd cur v) a (ones (rd l v)))
theorem nextFrom_length (l cur:List Int) (d:Nat):∀v a,(nextFrom l cur d v a).length=a.length:=by
  induction d with
  |zero=>intro v a;rfl
  |succ d ih=>intro v a;simp[nextFrom,ih,addAll_length]
def steps (l:List Int) (n:Int):Nat→List Int→List Int
  |0,a=>a
  |t+1,a=>steps l n t (nextFrom l a n.toNat 0 (List.replicate n.toNat 0))
theorem steps_length (l:List Int) (n:Int) (t:Nat):∀a:List Int,a.length=n.toNat→(steps l n t a).length=n.toNat:=by
  induction t with
  |zero=>intro a h;exact h
  |succ t ih=>intro a h;exact ih _ (by rw[nextFrom_length];simp)
theorem i_walks {n:Int} {l:List Int} (h:rows n l) {v t:Int} (v0:0≤v) (v1:v<n) (t0:0≤t) (t1:t≤1000):Ev (fun k=>Qal.f k n l v t) (steps l n t.toNat ((List.replicate n.toNat 0).set v.toNat 1)):=by
  have n1:=h.1
  have n2:=h.2.1
  have hl:=h.2.2.1
  have outer:∀(d:Nat) (s:Int) (a:List Int),0≤s→s≤t→t-s=d→a.length=n.toNat→Ev (fun k=>Qal.l0 k a t s n l) (steps l n d a):=by
    intro d
    induction d with
    |zero=>
      intro s a s0 s1 hd ha
      refine ev_k ?_
      simp only[Qal.l0]
      exact ev_neg (by omega) (Ev.now _)
    |succ d ih=>
      intro s a s0 s1 hd ha
      have mid:∀(e:Nat) (w:Nat) (b:List Int),(w:Int)≤n→n-w=e→b.length=n.toNat→Ev (fun k=>Qal.l1 k a b t s n w n l) (steps l n d (nextFrom l a e w b)):=by
        intro e
        induction e with
        |zero=>
          intro w b w1 he hb
          refine ev_k ?_
          simp only[Qal.l1]
          refine ev_neg (by omega) ?_
          rw[w64 (a:=s+1) (by omega) (by omega)]
          exact ih (s+1) b (by omega) (by omega) (by omega) hb
        |succ e ihe=>
          intro w b w1 he hb
          obtain⟨hr0,hr1⟩:=h.2.2.2 w (by omega) (by omega)
          have hp:=two_pow_le (n:=n) (by omega) n2
          have inner:∀(ws pre:List Int) (c:List Int),pre++ws=ones (rd l w)→c.length=n.toNat→Ev (fun k=>Qal.l2 k a c w t s n w (ones (rd l w)) (ones (rd l w)).length pre.length n l) (steps l n d (nextFrom l a e (w+1) (addAll (rd a w) c ws))):=by
            intro ws
            have ol:=ones_length (rd l w)
            induction ws with
            |nil=>
              intro pre c hp' hc
              rw[List.append_nil]at hp'
              refine ev_k ?_
              simp only[Qal.l2]
              refine ev_neg (by rw[hp'];omega) ?_
              have:=ihe (w+1) c (by omega) (by omega) hc
              rw[w64 (a:=(w:Int)+1) (by omega) (by omega)]
              exact this
            |cons u us ihu=>
              intro pre c hp' hc
              have hlen:pre.length<(ones (rd l w)).length:=by rw[← hp'];simp
              have hu:rd (ones (rd l w)) pre.length=u:=by
                rw[← hp']
                simp[rd,List.getD_eq_getElem?_getD]
              have hm:u ∈ ones (rd l w):=by rw[← hp'];simp
              obtain⟨u0,u1,_⟩:=(ones_mem (by omega) n2 hr0 hr1 u).1 hm
              have:=ihu (pre++[u]) (c.set u.toNat (wrap64 (rd c u+rd a w))) (by rw[← hp'];simp) (by simpa using hc)
              refine ev_k ?_
              simp only[Qal.l2,hu]
              refine ev_pos (by omega) (ev_pos (by omega) (ev_pos (by omega) (ev_pos u0 (ev_pos (by omega) (ev_pos (by omega) (ev_pos (by omega) ?_))))))
              rw[w64 (a:=(pre.length:Int)+1) (by omega) (by omega)]
              simpa[addAll] using this
          refine ev_k ?_
          simp only[Qal.l1]
          refine ev_pos (by omega) (ev_pos (by omega) (ev_pos (by omega) (Ev.bind (i_list hr0 (by omega)) ?_)))
          have:=inner (ones (rd l w)) [] b (by simp) hb
          simpa[nextFrom] using this
      refine ev_k ?_
      simp only[Qal.l0]
      refine ev_pos (by omega) (ev_pos (by omega) (ev_pos (by omega) ?_))
      exact mid n.toNat 0 (List.replicate n.toNat 0) (by omega) (by omega) (by simp)
  unfold Qal.f
  refine ev_pos (by omega) (ev_pos (by omega) ?_)
  simp only[Option.bind_some]
  refine ev_pos v0 (ev_pos (by simp;omega) ?_)
  exact outer t.toNat 0 _ (by omega) t0 (by omega) (by simp)
end Go.Proofs.YtmofdldplbplbaaDoor.Q
namespace Go.Proofs.YtmofdldplbplbaaDoor.Q
open Go Go.RowKit Go.Proofs.YtmofdldplbplbaaDoor.P Go.Proofs.YtmofdldplbplbaaDoorW.PrintWords Go.Proofs.YtmofdldplbplbaaDoorW.PrintLast Go.Proofs.YtmofdldplbplbaaDoorW.PrintMore
theorem b_mn_le (a b:Int):mn a b≤b:=by unfold mn;split<;>omega
theorem b_mn_ge {a b c:Int} (h:c≤a) (h':c≤b):c≤mn a b:=by unfold mn;split<;>omega
theorem sums_l0 (b n:Int) (hb0:0≤b) (hb1:b≤100) (hn:n≤1000000) (d:Nat):∀(all now i:Int),0≤i→n-i≤d→0≤all→all≤1000000000001→0≤now→now≤1000000000001→
    ∃r,(0≤r∧r≤1000000000001)∧Ev (fun k=>Qcm.l0 k (b+1) n all now i) r∧Ev (fun k=>Qch.l0 k b all now n i) r:=by
  induction d with
  |zero=>
    intro all now i h0 hd a0 a1 _ _
    refine⟨all,⟨a0,a1⟩,ev_k ?_,ev_k ?_⟩
    · simp only[Qcm.l0]
      exact ev_neg (by omega) (Ev.now _)
    · simp only[Qch.l0]
      exact ev_neg (by omega) (Ev.now _)
  |succ d ih=>
    intro all now i h0 hd ha0 ha1 hn0 hn1
    by_cases h:i<n
    · have hp:0≤now*b:=Int.mul_nonneg hn0 hb0
      have hq:now*b≤1000000000001*100:=Int.mul_le_mul hn1 hb1 hb0 (by omega)
      have e1:wrap64 (all+now)=all+now:=w64 (by omega) (by omega)
      have e2:wrap64 (now*b)=now*b:=w64 (by omega) (by omega)
      have e3:wrap64 (i+1)=i+1:=w64 (by omega) (by omega)
      have e4:wrap64 (b+1-1)=b:=by rw[w64 (by omega) (by omega)];omega
      obtain⟨r,hr,hs,hi⟩:=ih (mn (all+now) 1000000000001) (mn (now*b) 1000000000001) (i+1) (by omega) (by omega)
        (b_mn_ge (by omega) (by omega)) (b_mn_le _ _) (b_mn_ge hp (by omega)) (b_mn_le _ _)
      refine⟨r,hr,ev_k ?_,ev_k ?_⟩
      · simp only[Qcm.l0]
        refine ev_pos h ?_
        rw[e1,e4,e2,e3]
        exact hs
      · simp only[Qch.l0]
        refine ev_pos h ?_
        rw[e1,e2,e3]
        exact hi
    · refine⟨all,⟨ha0,ha1⟩,ev_k ?_,ev_k ?_⟩
      · simp only[Qcm.l0]
        exact ev_neg h (Ev.now _)
      · simp only[Qch.l0]
        exact ev_neg h (Ev.now _)
theorem sums_of (b n:Int) (hb0:0≤b) (hb1:b≤100) (hn:n≤1000000):∃r,(0≤r∧r≤1000000000001)∧Ev (fun k=>Qcm.f k (b+1) n) r∧Ev (fun k=>Qch.f k b n) r:=by
  obtain⟨r,hr,hs,hi⟩:=sums_l0 b n hb0 hb1 hn n.toNat 0 1 0 (by omega) (by omega) (by omega) (by omega) (by omega) (by omega)
  exact⟨r,hr,by unfold Qcm.f;exact hs,by unfold Qch.f;exact hi⟩
theorem told_both (r:Int):∃p:Int × Int,Qdn.f r=some p∧Qdi.f r=some p∧(p.2=0→0≤r→0≤p.1∧p.1≤1000000000000):=by
  unfold Qdn.f Qdi.f
  by_cases h:r>1000000000000
  · exact⟨(0,3),if_pos h,if_pos h,fun z=>by simp at z⟩
  · exact⟨(r,0),if_neg h,if_neg h,fun _ _=>⟨by assumption,by simp only[];omega⟩⟩
end Go.Proofs.YtmofdldplbplbaaDoor.Q
namespace Go.Proofs.YtmofdldplbplbaaDoor.Q
open Go Go.RowKit Go.Proofs.YtmofdldplbplbaaDoor.P Go.Proofs.YtmofdldplbplbaaDoorW.PrintWords Go.Proofs.YtmofdldplbplbaaDoorW.PrintMore
theorem i_bound (d k:Int) (hd:1≤d∧d≤62) (hk:1≤k∧k≤60):∃r p,(0≤r∧r≤1000000000001)∧Ev (fun z=>Qch.f z d (k+1)) r∧Qdi.f r=some p∧Ev (fun n=>Qbn.f n d k) p:=by
  have ij:∀(b:Bool) (q:Int × Int),Ev (fun z=>Qbn.j0 z d k b) q→(b=true→¬((1≤d∧d≤62)∧1≤k∧k≤60))→(b=false→(1≤d∧d≤62)∧1≤k∧k≤60)→Ev (fun z=>Qbn.f z d k) q:=by
    intro b q h h1 h2
    unfold Qbn.f
    have bt:¬((1≤d∧d≤62)∧1≤k∧k≤60)→b=true:=fun z=>by
      cases b with
      |true=>rfl
      |false=>exact absurd (h2 rfl) z
    by_cases c1:d<1
    · rw[bt (by omega)]at h
      exact ev_pos c1 h
    refine ev_neg c1 ?_
    by_cases c2:d>62
    · rw[bt (by omega)]at h
      exact ev_pos c2 h
    refine ev_neg c2 ?_
    by_cases c3:k<1
    · rw[bt (by omega)]at h
      exact ev_pos c3 h
    refine ev_neg c3 ?_
    have:b=decide (k>60):=by
      cases b with
      |true=>have:=h1 rfl;exact(decide_eq_true (by omega)).symm
      |false=>have:=h2 rfl;exact(decide_eq_false (by omega)).symm
    rw[← this]
    exact h
  obtain⟨r,hr,_,hi⟩:=sums_of d (k+1) (by omega) (by omega) (by omega)
  obtain⟨p,_,p2,_⟩:=told_both r
  have e2:wrap64 (k+1)=k+1:=w64 (by omega) (by omega)
  refine⟨r,p,hr,hi,p2,ij false _ (ev_k ?_) (by simp) (fun _=>⟨hd,hk⟩)⟩
  simp only[Qbn.j0]
  rw[e2]
  exact ev_neg (by simp) (Ev.bind hi (ev_bind0 p2 (Ev.now _)))
end Go.Proofs.YtmofdldplbplbaaDoor.Q
namespace Go.Proofs.YtmofdldplbplbaaDoor.Q
open Go Go.RowKit Go.Proofs.YtmofdldplbplbaaDoor.P Go.Proofs.YtmofdldplbplbaaDoorW.PrintWords Go.Proofs.YtmofdldplbplbaaDoorW.PrintMore
theorem rev_val (n:Int) (l:List Int):∃m r c,r.length≤62∧Ev (fun k=>Qct.f k n l) (m,r,c)∧Ev (fun k=>Qbw.f k n l) (m,r,c)∧(rows n l→c=0∧m=n∧Mx n r (fun v w=>tb (rd l w) v=true))∧(¬rows n l→c=1∧m=0):=by
  by_cases hg:rows n l
  · obtain⟨r,hr,hx⟩:=s_reverse hg
    obtain⟨r',hr',hx'⟩:=i_reversed hg
    obtain rfl:=hr.eq hr' (by have:=hg.1;omega)
    refine⟨n,r,0,by have:=hr.1;have:=hg.2.1;omega,?_,?_,fun _=>⟨rfl,rfl,hr⟩,fun h=>absurd hg h⟩
    · unfold Qct.f
      exact Ev.bind ((s_di n l).yes hg) (ev_pos rfl (Ev.bind hx (Ev.now _)))
    · unfold Qbw.f
      exact ev_bind0 (i_di_yes hg) (ev_pos rfl (Ev.bind hx' (Ev.now _)))
  · refine⟨0,[],1,by simp,?_,?_,fun h=>absurd h hg,fun _=>⟨rfl,rfl⟩⟩
    · unfold Qct.f
      exact Ev.bind ((s_di n l).no hg) (ev_neg (by decide) (Ev.now _))
    · unfold Qbw.f
      exact ev_bind0 (i_di_no hg) (ev_neg (by decide) (Ev.now _))
theorem of_val (n:Int) (l:List Int) (hl:l.length≤1048576):∃m r c,r.length≤1048576∧Ev (fun k=>Qcb.f k n l) (m,r,c)∧Ev (fun k=>Qca.f k n l) (m,r,c)∧(c=0→isG n l∧m=n∧r=l):=by
  by_cases hg:isG n l
  · refine⟨n,l,0,hl,?_,?_,fun _=>⟨hg,rfl,rfl⟩⟩
    · unfold Qcb.f
      refine Ev.bind ((s_is n l).yes hg) (ev_pos rfl (ev_of ?_))
      unfold Qbm.f
      simp only[Option.bind_some,List.length_nil,Nat.zero_add,List.nil_append]
      rw[if_pos (by omega)]
      rfl
    · unfold Qca.f
      refine Ev.bind ((i_is n l).yes hg) (ev_pos rfl (ev_of ?_))
      unfold Qcg.f
      rw[if_pos (by omega)]
      rfl
  · refine⟨0,[],1,by simp,?_,?_,fun h=>by simp at h⟩
    · unfold Qcb.f
      exact Ev.bind ((s_is n l).no hg) (ev_neg (by decide) (Ev.now _))
    · unfold Qca.f
      exact Ev.bind ((i_is n l).no hg) (ev_neg (by decide) (Ev.now _))
theorem arcs_val (n:Int) (l:List Int):∃g q,g.length≤4000∧(∀x ∈ g,x.length≤2)∧Ev (fun k=>Qdl.f k n l) (g,q)∧Ev (fun k=>Qdk.f k n l) (g,q)∧(rows n l→q=0):=by
  unfold Qdl.f Qdk.f
  by_cases hg:rows n l
  · have hl:=arcsTo_length l n.toNat
    have n2:=hg.2.1
    refine⟨arcsTo l n.toNat,0,by omega,fun x hx=>?_,Ev.bind ((s_di n l).yes hg) (ev_pos rfl (Ev.bind (s_arcs hg) (Ev.now _))),ev_bind0 (i_di_yes hg) (ev_pos rfl (Ev.bind (i_arcs hg) (Ev.now _))),fun _=>rfl⟩
    obtain⟨v,w,_,_,_,rfl⟩:=(arcsTo_mem hg n.toNat (by have:=hg.1;omega) x).1 hx
    simp
  · exact⟨[],1,by simp,by simp,Ev.bind ((s_di n l).no hg) (ev_neg (by decide) (Ev.now _)),ev_bind0 (i_di_no hg) (ev_neg (by decide) (Ev.now _)),fun h=>absurd h hg⟩
theorem isdi_val (n:Int) (l:List Int):∃b,Ev (fun k=>Qda.f k n l) b∧Qaf.f n l=some b:=by
  unfold Qda.f
  by_cases hg:rows n l
  · exact⟨true,Ev.bind ((s_di n l).yes hg) (Ev.now _),i_di_yes hg⟩
  · exact⟨false,Ev.bind ((s_di n l).no hg) (Ev.now _),i_di_no hg⟩
theorem diam_both (n:Int) (l:List Int):∃b c d,Ev (fun k=>Qcu.f k n l) (b,c)∧Ev (fun k=>Qcl.f k n l) (b,c)∧Ev (fun k=>Qdh.f k n l) d∧Ev (fun k=>Qdg.f k n l) d∧(d.2=0→d.1=(c==0))∧(rows n l→0≤reach n l n.toNat 0 0→b=reach n l n.toNat 0 0∧c=0):=by
  unfold Qcu.f Qcl.f Qdh.f Qdg.f
  by_cases hg:rows n l
  · by_cases z:reach n l n.toNat 0 0<0
    · refine⟨0,5,(decide (reach n l n.toNat 0 0≥0),0),Ev.bind ((s_di n l).yes hg) (ev_pos rfl (Ev.bind (s_reach hg) (ev_pos z (Ev.now _)))),ev_bind0 (i_di_yes hg) (ev_pos rfl (Ev.bind (i_diameter hg) (ev_pos z (Ev.now _)))),Ev.bind ((s_di n l).yes hg) (ev_pos rfl (Ev.bind (s_reach hg) (Ev.now _))),ev_bind0 (i_di_yes hg) (ev_pos rfl (Ev.bind (i_diameter hg) (Ev.now _))),fun _=>?_,fun _ _=>by omega⟩
      simp only
      rw[decide_eq_false (by omega)]
      rfl
    · refine⟨_,0,(decide (reach n l n.toNat 0 0≥0),0),Ev.bind ((s_di n l).yes hg) (ev_pos rfl (Ev.bind (s_reach hg) (ev_neg z (Ev.now _)))),ev_bind0 (i_di_yes hg) (ev_pos rfl (Ev.bind (i_diameter hg) (ev_neg z (Ev.now _)))),Ev.bind ((s_di n l).yes hg) (ev_pos rfl (Ev.bind (s_reach hg) (Ev.now _))),ev_bind0 (i_di_yes hg) (ev_pos rfl (Ev.bind (i_diameter hg) (Ev.now _))),fun _=>?_,fun _ _=>⟨rfl,rfl⟩⟩
      simp only
      rw[decide_eq_true (by omega)]
      rfl
  · exact⟨0,1,(false,1),Ev.bind ((s_di n l).no hg) (ev_neg (by decide) (Ev.now _)),ev_bind0 (i_di_no hg) (ev_neg (by decide) (Ev.now _)),Ev.bind ((s_di n l).no hg) (ev_neg (by decide) (Ev.now _)),ev_bind0 (i_di_no hg) (ev_neg (by decide) (Ev.now _)),fun h=>by simp at h,fun h=>absurd h hg⟩
theorem deg_both (n:Int) (l:List Int):∃b c,Ev (fun k=>Qcw.f k n l) (b,c)∧Ev (fun k=>Qcn.f k n l) (b,c):=by
  unfold Qcw.f Qcn.f
  by_cases hg:rows n l
  · obtain⟨g,_,hs,hi⟩:=degreesD hg
    by_cases z:g<0
    · exact⟨0,5,Ev.bind ((s_di n l).yes hg) (ev_pos rfl (Ev.bind hs (ev_pos z (Ev.now _)))),ev_bind0 (i_di_yes hg) (ev_pos rfl (Ev.bind hi (ev_pos z (Ev.now _))))⟩
    · exact⟨g,0,Ev.bind ((s_di n l).yes hg) (ev_pos rfl (Ev.bind hs (ev_neg z (Ev.now _)))),ev_bind0 (i_di_yes hg) (ev_pos rfl (Ev.bind hi (ev_neg z (Ev.now _))))⟩
  · exact⟨0,1,Ev.bind ((s_di n l).no hg) (ev_neg (by decide) (Ev.now _)),ev_bind0 (i_di_no hg) (ev_neg (by decide) (Ev.now _))⟩
theorem reach_le {n:Int} {l:List Int} (n2:n≤62) (d:Nat):∀(v acc:Int),0≤v→v≤n→n-v=d→acc≤n-1→reach n l d v acc≤n-1∨reach n l d v acc=-1:=by
  induction d with
  |zero=>intro v acc _ _ _ h;exact .inl h
  |succ d ih=>
    intro v acc v0 v1 hd h
    simp only[reach]
    split
    · exact .inr rfl
    · refine ih (v+1) _ (by omega) (by omega) (by omega) ?_
      have hdist:=dist_of n l v (by omega)
      have hlen:=hdist.len
      obtain⟨m,_,hm⟩:=r_max (dist n l v) (by omega) (by omega)
      rw[top_eq hm]
      obtain⟨_,j,j0,j1,e⟩:=hm
      have:=hdist.small j j0 (by omega)
      unfold mx
      split<;>omega
theorem pc_small (k:Nat):∀n x,x<2 ^ n→pc k x≤n:=by
  induction k with
  |zero=>intro n x _;simp[pc]
  |succ k ih=>
    intro n x hx
    simp only[pc]
    cases n with
    |zero=>
      have:x=0:=by simpa using hx
      subst this
      have:=ih 0 0 (by simp)
      simpa using this
    |succ n=>
      have:=ih n (x/2) (by rw[Nat.pow_succ]at hx;omega)
      omega
theorem moore_both (n:Int) (l:List Int):∃b c,Ev (fun k=>Qbg.f k n l) (b,c)∧Ev (fun k=>Qbf.f k n l) (b,c)∧(c=0→b=true→n≤61→∃g k,Ev (fun z=>Qcn.f z n l) (g,0)∧Ev (fun z=>Qcl.f z n l) (k,0)∧Ev (fun z=>Qbn.f z g k) (n,0)):=by
  unfold Qbg.f Qbf.f
  by_cases hg:rows n l
  · have n1:=hg.1
    have n2:=hg.2.1
    obtain⟨g,hg64,hs,hi⟩:=degreesD hg
    have hr:=reach_le (l:=l) n2 n.toNat 0 0 (by omega) (by omega) (by omega) (by omega)
    by_cases z1:g≥1
    · by_cases z2:reach n l n.toNat 0 0≥1
      · obtain⟨q,hq,hq1,hq2⟩:=sums_of g (reach n l n.toNat 0 0+1) (by omega) (by omega) (by omega)
        refine⟨decide (n=q),0,Ev.bind ((s_di n l).yes hg) (ev_pos rfl (Ev.bind hs (Ev.bind (s_reach hg) (ev_pos z1 (ev_pos z2 ?_))))),ev_bind0 (i_di_yes hg) (ev_pos rfl (Ev.bind hi (Ev.bind (i_diameter hg) (ev_pos z1 (ev_pos z2 ?_))))),fun _ hb nb=>?_⟩
        · rw[w64 (a:=g+1) (by omega) (by omega),w64 (a:=reach n l n.toNat 0 0+1) (by omega) (by omega)]
          exact Ev.bind hq1 (ev_some (by rfl))
        · rw[w64 (a:=reach n l n.toNat 0 0+1) (by omega) (by omega)]
          refine Ev.bind hq2 (ev_some ?_)
          have:(q==n)=decide (n=q):=by
            rw[Bool.eq_iff_iff,beq_iff_eq,decide_eq_true_iff]
            exact eq_comm
          rw[this]
        · have hb:=of_decide_eq_true hb
          obtain⟨g',r,_,hcase,hi'⟩:=i_degD hg
          obtain rfl:=ev_uniq hi hi'
          have g62:g≤62:=by
            rcases hcase with⟨_,e⟩|⟨_,e⟩
            · obtain⟨x,e2,_,hx⟩:=hg.nat (v:=0) (by omega) (by omega)
              have:=pc_small 64 62 x hx
              unfold deg at e
              rw[e2,Int.toNat_natCast]at e
              omega
            · omega
          obtain⟨r2,p,_,hr2,hp,pi⟩:=i_bound g (reach n l n.toNat 0 0) (by omega) (by omega)
          obtain rfl:=ev_uniq hq2 hr2
          refine⟨g,reach n l n.toNat 0 0,?_,?_,?_⟩
          · unfold Qcn.f
            exact ev_bind0 (i_di_yes hg) (ev_pos rfl (Ev.bind hi (ev_neg (by omega) (Ev.now _))))
          · unfold Qcl.f
            exact ev_bind0 (i_di_yes hg) (ev_pos rfl (Ev.bind (i_diameter hg) (ev_neg (by omega) (Ev.now _))))
          · unfold Qdi.f at hp
            rw[if_neg (by omega)]at hp
            obtain rfl:=Option.some.inj hp
            rw[← hb]at pi
            exact pi
      · exact⟨false,0,Ev.bind ((s_di n l).yes hg) (ev_pos rfl (Ev.bind hs (Ev.bind (s_reach hg) (ev_pos z1 (ev_neg z2 (Ev.now _)))))),ev_bind0 (i_di_yes hg) (ev_pos rfl (Ev.bind hi (Ev.bind (i_diameter hg) (ev_pos z1 (ev_neg z2 (Ev.now _)))))),fun _ h=>by cases h⟩
    · exact⟨false,0,Ev.bind ((s_di n l).yes hg) (ev_pos rfl (Ev.bind hs (Ev.bind (s_reach hg) (ev_neg z1 (Ev.now _))))),ev_bind0 (i_di_yes hg) (ev_pos rfl (Ev.bind hi (Ev.bind (i_diameter hg) (ev_neg z1 (Ev.now _))))),fun _ h=>by cases h⟩
  · exact⟨false,1,Ev.bind ((s_di n l).no hg) (ev_neg (by decide) (Ev.now _)),ev_bind0 (i_di_no hg) (ev_neg (by decide) (Ev.now _)),fun h=>by simp at h⟩
theorem s_walks {n:Int} {l:List Int} (h:rows n l) {u:Int} (u0:0≤u) (u1:u<n) (t:Nat) (t1:t≤1000):∀a:List Int,a.length=n.toNat→Ev (fun k=>Qar.l0 k u t a n l) (rd (steps l n t a) u,0):=by
  have n1:=h.1
  have n2:=h.2.1
  have hl:=h.2.2.1
  induction t with
  |zero=>
    intro a ha
    refine ev_k ?_
    simp only[Qar.l0]
    exact ev_neg (by omega) (ev_pos u0 (ev_pos (by omega) (Ev.now _)))
  |succ t ih=>
    intro a ha
    have mid:∀(e:Nat) (v:Nat) (b:List Int),(v:Int)≤n→n-v=e→b.length=n.toNat→Ev (fun k=>Qar.l1 k u ((t+1:Nat):Int) a b v n l) (rd (steps l n t (nextFrom l a e v b)) u,0):=by
      intro e
      induction e with
      |zero=>
        intro v b v1 he hb
        refine ev_k ?_
        simp only[Qar.l1]
        refine ev_neg (by omega) ?_
        rw[w64 (a:=((t+1:Nat):Int)-1) (by omega) (by omega),show((t+1:Nat):Int)-1=(t:Int) by omega]
        exact ih (by omega) b hb
      |succ e ihe=>
        intro v b v1 he hb
        obtain⟨hr0,hr1⟩:=h.2.2.2 v (by omega) (by omega)
        have inner:∀(q:Nat) (w:Nat) (c:List Int),(w:Int)≤n→n-w=q→c.length=n.toNat→Ev (fun k=>Qar.l2 k u ((t+1:Nat):Int) a c v w n l) (rd (steps l n t (nextFrom l a e (v+1) (addAll (rd a v) c (onesFrom (rd l v).toNat q w)))) u,0):=by
          intro q
          induction q with
          |zero=>
            intro w c w1 hq hc
            refine ev_k ?_
            simp only[Qar.l2]
            refine ev_neg (by omega) ?_
            rw[w64 (a:=(v:Int)+1) (by omega) (by omega)]
            exact ihe (v+1) c (by omega) (by omega) hc
          |succ q ihq=>
            intro w c w1 hq hc
            have hh:=d_has n l v w (by omega) (by omega) (by omega) (by omega)
            have ht:tb (rd l v) w=(rd l v).toNat.testBit w:=by rw[tb_toNat hr0 (by omega),Int.toNat_natCast]
            by_cases hb:tb (rd l v) w=true
            · have:=ihq (w+1) (c.set w (wrap64 (rd c w+rd a v))) (by omega) (by omega) (by simpa using hc)
              refine ev_k ?_
              simp only[Qar.l2,hh,Option.bind_some]
              rw[w64 (a:=(w:Int)+1) (by omega) (by omega)]
              refine ev_pos (by omega) (ev_pos hb (ev_pos (by omega) (ev_pos (by omega) (ev_pos (by omega) (ev_pos (by omega) ?_)))))
              rw[ht]at hb
              simp only[onesFrom,hb,if_true,addAll,Int.toNat_natCast]
              exact this
            · have:=ihq (w+1) c (by omega) (by omega) hc
              refine ev_k ?_
              simp only[Qar.l2,hh,Option.bind_some]
              rw[w64 (a:=(w:Int)+1) (by omega) (by omega)]
              refine ev_pos (by omega) (ev_neg hb ?_)
              rw[ht]at hb
              simp only[onesFrom,hb]
              exact this
        refine ev_k ?_
        simp only[Qar.l1]
        refine ev_pos (by omega) ?_
        have:=inner n.toNat 0 b (by omega) (by omega) hb
        rw[← ones_to (by omega) n2 hr0 hr1]at this
        simpa[nextFrom] using this
    refine ev_k ?_
    simp only[Qar.l0]
    refine ev_pos (by omega) (ev_pos (by omega) (ev_pos (by omega) ?_))
    exact mid n.toNat 0 _ (by omega) (by omega) (by simp)
def walksN (n:Int) (l:List Int) (v u t:Int):Int:=rd (steps l n t.toNat ((List.replicate n.toNat 0).set v.toNat 1)) u
theorem walks_both (n:Int) (l:List Int) (v u t:Int):∃r c,Ev (fun k=>Qar.f k n l v u t) (r,c)∧Ev (fun k=>Qcv.f k n l v u t) (r,c)∧(c=0→(rows n l∧(0≤v∧v<n)∧0≤u∧u<n)∧r=walksN n l v u t∧∀l',rows n l'→Ev (fun k=>Qcv.f k n l' u v t) (walksN n l' u v t,0)):=by
  unfold Qar.f Qcv.f
  simp only[s_in,Option.bind_some]
  by_cases hg:rows n l
  · have n1:=hg.1
    have n2:=hg.2.1
    have hw:wrap64 (n-1)=n-1:=w64 (by omega) (by omega)
    rw[hw]
    have hi:∀{f:Nat→Option (Int × Int)} {r},Ev f r→Ev (fun k=>(Qaf.f n l).bind fun t161=>if t161=true then f k else some (0,1)) r:=fun H=>ev_bind0 (i_di_yes hg) (ev_pos rfl H)
    by_cases hv:0≤v∧v<n
    · by_cases hu:0≤u∧u<n
      · by_cases ht:0≤t∧t≤8
        · have hs:=s_walks hg hu.1 hu.2 t.toNat (by omega) ((List.replicate n.toNat 0).set v.toNat 1) (by simp)
          have hx:=i_walks hg hv.1 hv.2 ht.1 (by omega)
          have hlen:=steps_length l n t.toNat ((List.replicate n.toNat 0).set v.toNat 1) (by simp)
          rw[Int.toNat_of_nonneg ht.1]at hs
          refine⟨walksN n l v u t,0,Ev.bind ((s_di n l).yes hg) (ev_pos rfl (ev_pos (decide_eq_true (by omega)) (ev_pos (decide_eq_true (by omega)) (ev_pos (decide_eq_true (by omega)) (ev_pos (by omega) (ev_pos (by omega) (ev_pos hv.1 (ev_pos (by simp;omega) hs)))))))),?_,fun _=>⟨⟨hg,hv,hu⟩,rfl,fun l' hg'=>?_⟩⟩
          · exact hi (ev_neg (by omega) (ev_neg (by omega) (ev_neg (by omega) (ev_neg (by omega) (ev_neg (by omega) (ev_neg (by omega) (Ev.bind hx (ev_pos hu.1 (ev_pos (by omega) (Ev.now _))))))))))
          · have hx':=i_walks hg' hu.1 hu.2 ht.1 (by omega)
            have hlen':=steps_length l' n t.toNat ((List.replicate n.toNat 0).set u.toNat 1) (by simp)
            exact ev_bind0 (i_di_yes hg') (ev_pos rfl (ev_neg (by omega) (ev_neg (by omega) (ev_neg (by omega) (ev_neg (by omega) (ev_neg (by omega) (ev_neg (by omega) (Ev.bind hx' (ev_pos hv.1 (ev_pos (by omega) (Ev.now _)))))))))))
        · refine⟨0,2,Ev.bind ((s_di n l).yes hg) (ev_pos rfl (ev_pos (decide_eq_true (by omega)) (ev_pos (decide_eq_true (by omega)) (ev_neg (by simp;omega) (Ev.now _))))),?_,fun h=>by simp at h⟩
          refine hi (ev_neg (by omega) (ev_neg (by omega) (ev_neg (by omega) (ev_neg (by omega) ?_))))
          by_cases h:t<0
          · exact ev_pos h (Ev.now _)
          · exact ev_neg h (ev_pos (by omega) (Ev.now _))
      · refine⟨0,2,Ev.bind ((s_di n l).yes hg) (ev_pos rfl (ev_pos (decide_eq_true (by omega)) (ev_neg (by simp;omega) (Ev.now _)))),?_,fun h=>by simp at h⟩
        refine hi (ev_neg (by omega) (ev_neg (by omega) ?_))
        by_cases h:u<0
        · exact ev_pos h (Ev.now _)
        · exact ev_neg h (ev_pos (by omega) (Ev.now _))
    · refine⟨0,2,Ev.bind ((s_di n l).yes hg) (ev_pos rfl (ev_neg (by simp;omega) (Ev.now _))),?_,fun h=>by simp at h⟩
      refine hi ?_
      by_cases h:v<0
      · exact ev_pos h (Ev.now _)
      · exact ev_neg h (ev_pos (by omega) (Ev.now _))
  · exact⟨0,1,Ev.bind ((s_di n l).no hg) (ev_neg (by decide) (Ev.now _)),ev_bind0 (i_di_no hg) (ev_neg (by decide) (Ev.now _)),fun h=>by simp at h⟩
end Go.Proofs.YtmofdldplbplbaaDoor.Q
namespace Go.Proofs.YtmofdldplbplbaaDoor.Q
open Go Go.RowKit Go.Proofs.YtmofdldplbplbaaDoor.P Go.Proofs.YtmofdldplbplbaaDoorW.PrintWords Go.Proofs.YtmofdldplbplbaaDoorW.PrintMore
def sm (f:Int→Int):Nat→Int
  |0=>0
  |m+1=>sm f m+f m
theorem sm_congr {f g:Int→Int} (m:Nat) (h:∀i:Int,0≤i→i<m→f i=g i):sm f m=sm g m:=by
  induction m with
  |zero=>rfl
  |succ m ih=>
    simp only[sm]
    rw[ih fun i i0 i1=>h i i0 (by omega),h m (by omega) (by omega)]
theorem sm_zero (m:Nat):sm (fun _=>0) m=0:=by
  induction m with
  |zero=>rfl
  |succ m ih=>simp only[sm,ih];rfl
theorem sm_add (f g:Int→Int) (m:Nat):sm (fun i=>f i+g i) m=sm f m+sm g m:=by
  induction m with
  |zero=>rfl
  |succ m ih=>simp only[sm,ih];omega
theorem sm_swap (f:Int→Int→Int) (m k:Nat):sm (fun i=>sm (fun j=>f i j) k) m=sm (fun j=>sm (fun i=>f i j) m) k:=by
  induction m with
  |zero=>simp only[sm];exact(sm_zero k).symm
  |succ m ih=>simp only[sm];rw[ih,← sm_add]
theorem sm_ite (p:Prop) [Decidable p] (f:Int→Int) (m:Nat):(if p then sm f m else 0)=sm (fun i=>if p then f i else 0) m:=by
  by_cases h:p
  · simp[h]
  · simp[h,sm_zero]
theorem sm_one (v:Int) (c:Int→Int) (m:Nat) (v0:0≤v) (v1:v<m):sm (fun i=>if i=v then c i else 0) m=c v:=by
  induction m with
  |zero=>omega
  |succ m ih=>
    simp only[sm]
    by_cases z:v<m
    · rw[ih z,if_neg (by omega)]
      omega
    · have e:v=m:=by omega
      rw[if_pos e.symm,sm_congr m (g:=fun _=>0) fun i i0 i1=>if_neg (by omega),sm_zero,e]
      omega
def cnt (n:Nat) (l:List Int) (v:Int):Nat→Int→Int
  |0,u=>if u=v then 1 else 0
  |t+1,u=>sm (fun w=>if tb (rd l w) u=true then cnt n l v t w else 0) n
theorem cnt_front (n:Nat) (l:List Int) (t:Nat):∀v u:Int,0≤v→v<n→0≤u→u<n→cnt n l v (t+1) u=sm (fun w=>if tb (rd l v) w=true then cnt n l w t u else 0) n:=by
  induction t with
  |zero=>
    intro v u v0 v1 u0 u1
    have a:cnt n l v 1 u=if tb (rd l v) u=true then 1 else 0:=by
      show sm (fun w=>if tb (rd l w) u=true then(if w=v then 1 else 0)else 0) n=_
      rw[sm_congr n (g:=fun w=>if w=v then(if tb (rd l w) u=true then 1 else 0)else 0) fun i _ _=>by split<;>split<;>rfl]
      exact sm_one v (fun w=>if tb (rd l w) u=true then 1 else 0) n v0 v1
    rw[a,sm_congr n (g:=fun w=>if w=u then(if tb (rd l v) w=true then 1 else 0)else 0) fun i _ _=>?_]
    · exact(sm_one u (fun w=>if tb (rd l v) w=true then 1 else 0) n u0 u1).symm
    · show(if tb (rd l v) i=true then(if u=i then 1 else 0)else 0)=_
      by_cases z:i=u
      · subst z;simp
      · have z':¬u=i:=fun q=>z q.symm
        simp[z,z']
  |succ t ih=>
    intro v u v0 v1 u0 u1
    show sm (fun w=>if tb (rd l w) u=true then cnt n l v (t+1) w else 0) n=sm (fun w=>if tb (rd l v) w=true then sm (fun x=>if tb (rd l x) u=true then cnt n l w t x else 0) n else 0) n
    have e1:sm (fun w=>if tb (rd l w) u=true then cnt n l v (t+1) w else 0) n=sm (fun w=>sm (fun x=>if tb (rd l w) u=true then(if tb (rd l v) x=true then cnt n l x t w else 0)else 0) n) n:=
      sm_congr n fun w w0 w1=>by rw[← sm_ite,ih v w v0 v1 w0 w1]
    have e2:sm (fun w=>if tb (rd l v) w=true then sm (fun x=>if tb (rd l x) u=true then cnt n l w t x else 0) n else 0) n=sm (fun w=>sm (fun x=>if tb (rd l v) w=true then(if tb (rd l x) u=true then cnt n l w t x else 0)else 0) n) n:=
      sm_congr n fun w _ _=>sm_ite _ _ _
    rw[e1,e2,sm_swap]
    exact sm_congr n fun x _ _=>sm_congr n fun w _ _=>by split<;>split<;>rfl
theorem cnt_rev {n:Nat} {l r:List Int} (hr:∀v w:Int,0≤v→v<n→0≤w→w<n→tb (rd r v) w=tb (rd l w) v) (t:Nat):∀v u:Int,0≤v→v<n→0≤u→u<n→cnt n r u t v=cnt n l v t u:=by
  induction t with
  |zero=>
    intro v u _ _ _ _
    show(if v=u then(1:Int)else 0)=if u=v then 1 else 0
    by_cases z:u=v
    · rw[if_pos z,if_pos z.symm]
    · rw[if_neg z,if_neg fun q=>z q.symm]
  |succ t ih=>
    intro v u v0 v1 u0 u1
    rw[cnt_front n l t v u v0 v1 u0 u1]
    show sm (fun w=>if tb (rd r w) v=true then cnt n r u t w else 0) n=_
    exact sm_congr n fun w w0 w1=>by rw[hr w v w0 w1 v0 v1,ih w u w0 w1 u0 u1]
theorem wr_wr (a b:Int):wrap64 (wrap64 a+b)=wrap64 (a+b):=by unfold wrap64;omega
theorem addOnes (c:Int) (x:Nat) (d:Nat):∀(m:Nat) (a:List Int) (u:Int),m+d≤a.length→0≤u→u<a.length→rd (addAll c a (onesFrom x d m)) u=if(m≤u∧u<m+d)∧x.testBit u.toNat=true then wrap64 (rd a u+c)else rd a u:=by
  induction d with
  |zero=>
    intro m a u _ _ _
    simp only[onesFrom,addAll]
    rw[if_neg (by omega)]
  |succ d ih=>
    intro m a u hm u0 u1
    simp only[onesFrom]
    by_cases hb:x.testBit m=true
    · rw[if_pos hb]
      simp only[addAll]
      rw[ih (m+1) _ u (by simp;omega) u0 (by simpa using u1)]
      have e:=rd_set (l:=a) (i:=(m:Int)) (j:=u) (wrap64 (rd a m+c)) (by omega) (by omega) u0
      rw[Int.toNat_natCast]at e
      rw[Int.toNat_natCast,e]
      by_cases z:u=m
      · subst z
        rw[if_pos rfl,if_neg (by omega),if_pos ⟨by omega,by rw[Int.toNat_natCast];exact hb⟩]
      · rw[if_neg z]
        by_cases q:(((m+1:Nat):Int)≤u∧u<((m+1:Nat):Int)+d)∧x.testBit u.toNat=true
        · rw[if_pos q,if_pos ⟨by omega,q.2⟩]
        · rw[if_neg q,if_neg fun y=>q ⟨by omega,y.2⟩]
    · rw[if_neg hb,ih (m+1) a u (by omega) u0 u1]
      by_cases q:(((m+1:Nat):Int)≤u∧u<((m+1:Nat):Int)+d)∧x.testBit u.toNat=true
      · rw[if_pos q,if_pos ⟨by omega,q.2⟩]
      · rw[if_neg q,if_neg fun y=>q ⟨by
          by_cases z:u=m
          · subst z
            rw[Int.toNat_natCast]at y
            exact absurd y.2 hb
          · omega,y.2⟩]
def smFrom (f:Int→Int):Nat→Nat→Int
  |0,_=>0
  |d+1,v=>f v+smFrom f d (v+1)
theorem smFrom_sm (f:Int→Int) (d:Nat):∀v,sm f v+smFrom f d v=sm f (v+d):=by
  induction d with
  |zero=>intro v;simp[smFrom]
  |succ d ih=>
    intro v
    have:=ih (v+1)
    rw[show v+(d+1)=v+1+d by omega,← this]
    simp only[smFrom,sm]
    omega
theorem next_rd {n:Int} {l:List Int} (h:rows n l) (cur:List Int) (d:Nat):∀(v:Nat) (a:List Int) (u:Int),(v:Int)+d≤n→(a.length:Int)=n→0≤u→u<n→wrap64 (rd a u)=rd a u→rd (nextFrom l cur d v a) u=wrap64 (rd a u+smFrom (fun w=>if tb (rd l w) u=true then rd cur w else 0) d v):=by
  induction d with
  |zero=>
    intro v a u _ _ _ _ hw
    simp only[nextFrom,smFrom,Int.add_zero,hw]
  |succ d ih=>
    intro v a u hv ha u0 u1 hw
    obtain⟨x,e,hx,_⟩:=h.nat (v:=(v:Int)) (by omega) (by omega)
    have eo:=ones_to (n:=n) (x:=rd l v) (by omega) h.2.1 (h.2.2.2 v (by omega) (by omega)).1 (h.2.2.2 v (by omega) (by omega)).2
    have key:rd (addAll (rd cur v) a (ones (rd l v))) u=if tb (rd l v) u=true then wrap64 (rd a u+rd cur v)else rd a u:=by
      rw[eo,e,Int.toNat_natCast,addOnes (rd cur v) x n.toNat 0 a u (by omega) u0 (by omega)]
      have et:tb (x:Int) u=x.testBit u.toNat:=by rw[tb_toNat (by omega) u0,Int.toNat_natCast]
      rw[et]
      by_cases z:x.testBit u.toNat=true
      · rw[if_pos z,if_pos ⟨by omega,z⟩]
      · rw[if_neg z,if_neg fun q=>z q.2]
    simp only[nextFrom,smFrom]
    have hw2:wrap64 (rd (addAll (rd cur v) a (ones (rd l v))) u)=rd (addAll (rd cur v) a (ones (rd l v))) u:=by
      rw[key]
      split
      · have:=wr_wr (rd a u+rd cur v) 0
        simpa using this
      · exact hw
    rw[ih (v+1) _ u (by omega) (by rw[addAll_length];exact ha) u0 u1 hw2,key]
    by_cases z:tb (rd l v) u=true
    · rw[if_pos z,if_pos z,wr_wr]
      congr 1
      omega
    · rw[if_neg z,if_neg z]
      congr 1
      omega
theorem sm_wrap (f g:Int→Int) (m:Nat) (h:∀i:Int,0≤i→i<m→f i=wrap64 (g i)):wrap64 (sm f m)=wrap64 (sm g m):=by
  induction m with
  |zero=>rfl
  |succ m ih=>
    simp only[sm]
    have a:=ih fun i i0 i1=>h i i0 (by omega)
    have b:=h m (by omega) (by omega)
    rw[b]
    unfold wrap64 at *
    omega
theorem steps_rd {n:Int} {l:List Int} (h:rows n l) (v:Int) (t:Nat):∀(s:Nat) (a:List Int),(a.length:Int)=n→(∀u:Int,0≤u→u<n→rd a u=wrap64 (cnt n.toNat l v s u))→∀u:Int,0≤u→u<n→rd (steps l n t a) u=wrap64 (cnt n.toNat l v (s+t) u):=by
  have n1:=h.1
  induction t with
  |zero=>intro s a _ ha u u0 u1;exact ha u u0 u1
  |succ t ih=>
    intro s a hl ha u u0 u1
    simp only[steps]
    rw[show s+(t+1)=s+1+t by omega]
    refine ih (s+1) _ (by rw[nextFrom_length];simp;omega) (fun u u0 u1=>?_) u u0 u1
    have hz:rd (List.replicate n.toNat (0:Int)) u=0:=by
      have:u.toNat<n.toNat:=by omega
      simp[rd,List.getD_eq_getElem?_getD,this]
    rw[next_rd h a n.toNat 0 (List.replicate n.toNat 0) u (by omega) (by simp;omega) u0 u1 (by rw[hz];exact w64 (by decide) (by decide)),hz]
    have e:=smFrom_sm (fun w=>if tb (rd l w) u=true then rd a w else 0) n.toNat 0
    simp only[sm,Int.zero_add,Nat.zero_add]at e
    rw[Int.zero_add,e]
    show _=wrap64 (sm (fun w=>if tb (rd l w) u=true then cnt n.toNat l v s w else 0) n.toNat)
    refine sm_wrap _ _ _ fun w w0 w1=>?_
    rw[ha w w0 (by omega)]
    split
    · rfl
    · exact(w64 (by decide) (by decide)).symm
theorem walksN_cnt {n:Int} {l:List Int} (h:rows n l) {v u:Int} (v0:0≤v) (v1:v<n) (u0:0≤u) (u1:u<n) (t:Int):walksN n l v u t=wrap64 (cnt n.toNat l v t.toNat u):=by
  have n1:=h.1
  unfold walksN
  have:=steps_rd h v t.toNat 0 ((List.replicate n.toNat 0).set v.toNat 1) (by simp;omega) (fun u u0 u1=>?_) u u0 u1
  · rwa [Nat.zero_add]at this
  · rw[rd_set _ v0 (by simp;omega) u0]
    show _=wrap64 (if u=v then 1 else 0)
    by_cases z:u=v
    · rw[if_pos z,if_pos z]
      exact(w64 (by decide) (by decide)).symm
    · rw[if_neg z,if_neg z,w64 (a:=0) (by decide) (by decide)]
      have:u.toNat<n.toNat:=by omega
      simp[rd,List.getD_eq_getElem?_getD,this]
theorem walks_rev {n:Int} {l r:List Int} (h:rows n l) (hr:Mx n r (fun v w=>tb (rd l w) v=true)) {v u:Int} (v0:0≤v) (v1:v<n) (u0:0≤u) (u1:u<n) (t:Int):walksN n r u v t=walksN n l v u t:=by
  have n1:=h.1
  rw[walksN_cnt (hr.rows n1 h.2.1) u0 u1 v0 v1,walksN_cnt h v0 v1 u0 u1]
  congr 1
  exact cnt_rev (fun a b a0 a1 b0 b1=>Bool.eq_iff_iff.2 ((hr.2 a a0 (by omega)).2 b b0 (by omega))) t.toNat v u v0 (by omega) u0 (by omega)
end Go.Proofs.YtmofdldplbplbaaDoor.Q
namespace Go.Proofs.YtmofdldplbplbaaDoor.Pure
open Go Go.RowKit Go.Proofs.YtmofdldplbplbaaDoor.P Go.Proofs.YtmofdldplbplbaaDoorW.PrintWords Go.Proofs.YtmofdldplbplbaaDoorW.PrintLast Go.Proofs.YtmofdldplbplbaaDoorW.PrintMore Go.Proofs.YtmofdldplbplbaaDoor.Q
theorem rev_in {l:List Int} (hl:Codes l):∃n r,r.length≤62∧Ev (fun z=>Qco.f z l) (n,r)∧Ev (fun z=>Qcp.f z l) (n,r)∧Ev (fun z=>Qcr.f z l) (n,r):=by
  obtain⟨h,e⟩:=from_ev hl
  obtain⟨n,r,a,h',_,hr,_,hE⟩:=drawD_in hl (a:=0) ⟨by omega,by omega⟩ h
  refine⟨n,r,hr.2,?_,?_,?_⟩
  · unfold Qco.f
    exact Ev.bind e (Ev.bind hE (Ev.now _))
  · unfold Qcp.f
    exact Ev.bind e (Ev.bind hE (Ev.now _))
  · unfold Qcr.f
    exact Ev.bind e (Ev.bind hE (Ev.now _))
theorem graph_in {l:List Int} (hl:Codes l):∃n r,r.length≤63∧Ev (fun z=>Qcz.f z l) (n,r):=by
  obtain⟨h,e⟩:=from_ev hl
  obtain⟨n,r,a,h',hr,_,hE⟩:=spoil_in hl (a:=0) ⟨by omega,by omega⟩ h
  refine⟨n,r,hr,?_⟩
  unfold Qcz.f
  exact Ev.bind e (Ev.bind hE (Ev.now _))
theorem wrap_lt (x:Int):wrap64 x<9223372036854775808:=by unfold wrap64;omega
theorem walks_in {l:List Int} (hl:Codes l):∃n r a b t,Ev (fun z=>Qbq.f z l) (n,r,a,b,t):=by
  obtain⟨h,e⟩:=from_ev hl
  obtain⟨n,r,a1,h1,hn,hr,ha1,hE⟩:=drawD_in hl (a:=0) ⟨by omega,by omega⟩ h
  have hm:mn (mx n 1) 62<9223372036854775808:=by unfold mn mx;split<;>split<;>omega
  obtain⟨x,a2,h2,e2,ha2,_⟩:=next_in hl ha1 h1 (mn (mx n 1) 62) hm
  obtain⟨y,a3,h3,e3,ha3,_⟩:=next_in hl ha2 h2 24 (by omega)
  obtain⟨z,a4,h4,e4,ha4,_⟩:=next_in hl ha3 h3 (wrap64 (mn (mx n 1) 62+wrap64 (Int.tdiv y 23))) (wrap_lt _)
  obtain⟨u,a5,h5,e5,ha5,_⟩:=next_in hl ha4 h4 6 (by omega)
  obtain⟨v,a6,h6,e6,ha6,_⟩:=next_in hl ha5 h5 24 (by omega)
  refine⟨n,r,x,z,wrap64 (u+wrap64 (wrap64 (Int.tdiv v 23)*4)),?_⟩
  unfold Qbq.f
  exact Ev.bind e (Ev.bind hE (ev_bind0 e2 (ev_bind0 e3 (ev_bind0 e4 (ev_bind0 e5 (ev_bind0 e6 (Ev.now _)))))))
theorem moore_in {l:List Int} (hl:Codes l):∃n r,n≤61∧Ev (fun z=>Qag.f z l) (n,r):=by
  obtain⟨h,e⟩:=from_ev hl
  obtain⟨x,a1,h1,e1,ha1,x0,x1,_⟩:=next_in hl (a:=0) ⟨by omega,by omega⟩ h 6 (by omega)
  have x1:=x1 (by omega)
  obtain⟨c,a2,h2,e2,ha2,_⟩:=next_in hl ha1 h1 3 (by omega)
  have ew:wrap64 (2+x)=2+x:=w64 (by omega) (by omega)
  have cyc:∀(d:Nat) (v:Int) (r:List Int),0≤v→2+x-v=d→(r.length:Int)=v→∃r',Ev (fun k=>Qag.l0 k (2+x) v (2+x) r) (2+x,r'):=by
    intro d
    induction d with
    |zero=>
      intro v r v0 hd hr
      refine⟨r,ev_k ?_⟩
      simp only[Qag.l0]
      exact ev_neg (by omega) (Ev.now _)
    |succ d ih=>
      intro v r v0 hd hr
      have e1:wrap64 (v+1)=v+1:=w64 (by omega) (by omega)
      have t1:=tmod_in (a:=v+1) (n:=2+x) (by omega) (by omega)
      obtain⟨r',hE⟩:=ih (v+1) (r++[shl .i64 1 (IntKind.u64.wrap (Int.tmod (v+1) (2+x)))]) (by omega) (by omega) (by simp;omega)
      refine⟨r',ev_k ?_⟩
      simp only[Qag.l0]
      rw[e1]
      exact ev_pos (by omega) (ev_neg (by omega) (ev_pos (by rw[wu64 t1.1 (by omega)];exact t1.1) (ev_pos (by omega) hE)))
  have all:∀(d:Nat) (v:Int) (r:List Int),0≤v→2+x-v=d→(r.length:Int)=v→∃r',Ev (fun k=>Qag.l1 k (2+x) v (2+x) r) (2+x,r'):=by
    intro d
    induction d with
    |zero=>
      intro v r v0 hd hr
      refine⟨r,ev_k ?_⟩
      simp only[Qag.l1]
      exact ev_neg (by omega) (Ev.now _)
    |succ d ih=>
      intro v r v0 hd hr
      have e1:wrap64 (v+1)=v+1:=w64 (by omega) (by omega)
      obtain⟨r',hE⟩:=ih (v+1) (r++[wrap64 (wrap64 (shl .i64 1 (IntKind.u64.wrap (2+x))-1)-shl .i64 1 (IntKind.u64.wrap v))]) (by omega) (by omega) (by simp;omega)
      refine⟨r',ev_k ?_⟩
      simp only[Qag.l1]
      rw[e1]
      exact ev_pos (by omega) (ev_pos (by rw[wu64 (by omega) (by omega)];omega) (ev_pos (by rw[wu64 v0 (by omega)];exact v0) (ev_pos (by omega) hE)))
  by_cases z0:c=0
  · obtain⟨r,hE⟩:=cyc (2+x).toNat 0 [] (by omega) (by omega) (by simp)
    refine⟨2+x,r,by omega,?_⟩
    unfold Qag.f
    refine Ev.bind e (ev_bind0 e1 ?_)
    simp only[Option.bind_some,ew]
    exact ev_bind0 e2 (ev_pos z0 hE)
  by_cases z1:c=1
  · obtain⟨r,hE⟩:=all (2+x).toNat 0 [] (by omega) (by omega) (by simp)
    refine⟨2+x,r,by omega,?_⟩
    unfold Qag.f
    refine Ev.bind e (ev_bind0 e1 ?_)
    simp only[Option.bind_some,ew]
    exact ev_bind0 e2 (ev_neg z0 (ev_pos z1 hE))
  · obtain⟨n,r,a,h',hn,hr,_,hE⟩:=drawD_in hl ha2 h2
    refine⟨n,r,by omega,?_⟩
    unfold Qag.f
    refine Ev.bind e (ev_bind0 e1 ?_)
    simp only[Option.bind_some,ew]
    exact ev_bind0 e2 (ev_neg z0 (ev_neg z1 (Ev.bind hE (Ev.now _))))
theorem FnDigraphs:∀(l0:List Int),l0.length≤maxLen→(∀x ∈ l0,(Lit.int .u8 x).wf=true)→∃k,Qaa.f k l0=some true:=by
  intro l _ hb
  refine Ev.rounds ?_
  unfold Qaa.f Qdj.f
  simp only[Option.bind_some]
  by_cases h:(l.length:Int)>4096
  · exact ev_pos (decide_eq_true h) (Ev.now _)
  refine ev_neg (by simpa using h) ?_
  have hl:Codes l:=⟨by omega,bytes_of hb⟩
  obtain⟨xn,xr,hxr,d1,d5,d6⟩:=rev_in hl
  obtain⟨rm,rr,rc,hrr,rs,ri,ryes,rno⟩:=rev_val xn xr
  obtain⟨ib,is1,ii⟩:=isdi_val xn xr
  obtain⟨g,gq,hg,hgx,gs,gi,gyes⟩:=arcs_val xn xr
  obtain⟨gn,gr,hgr,d2⟩:=graph_in hl
  obtain⟨om,orr,oc,hor,os,oi,oyes⟩:=of_val gn gr (by omega)
  obtain⟨yn,yr,a,b,t,d3⟩:=walks_in hl
  obtain⟨w,wc,ws,wi,wyes⟩:=walks_both yn yr a b t
  obtain⟨zn,zr,hzn,d4⟩:=moore_in hl
  obtain⟨mb,mc,ms,mi,myes⟩:=moore_both zn zr
  obtain⟨ub,uc,⟨sb,sc⟩,us,ui,ss,si,syes,_⟩:=diam_both xn xr
  obtain⟨eb,ec,es,ei⟩:=deg_both xn xr
  have h12:Ev (fun z=>Qaa.j12 z rc gq xn xr rm rr) true:=by
    refine ev_k ?_
    simp only[Qaa.j12]
    by_cases z:rows xn xr
    · obtain⟨c0,m0,hm⟩:=ryes z
      subst m0
      have z2:=hm.rows z.1 z.2.1
      obtain⟨m2,r2,c2,r62,_,r2i,r2yes,_⟩:=rev_val rm rr
      obtain⟨c20,m20,hm2⟩:=r2yes z2
      subst m20
      have e:r2=xr:=(hm2.imp fun v u v0 v1 u0 u1=>(hm.2 u u0 u1).2 v v0 v1).eq (mx_of z) (by have:=z.1;omega)
      subst e
      exact ev_pos c0 (Ev.bind r2i (ev_pos (gyes z) (ev_pos c20 (Ev.bind (dig_self _ _ (Nat.le_trans r62 (by decide))) (Ev.now _)))))
    · obtain⟨c1,m0⟩:=rno z
      exact ev_neg (by omega) (ev_some (by simp[m0]))
  have h11:Ev (fun z=>Qaa.j11 z rc gq oc xn xr rm rr om orr) true:=by
    refine ev_k ?_
    simp only[Qaa.j11]
    by_cases z:oc=0
    · obtain⟨hG,e1,e2⟩:=oyes z
      subst e1
      subst e2
      obtain⟨m2,r2,c2,r62,_,r2i,r2yes,_⟩:=rev_val om orr
      obtain⟨c20,m20,hm2⟩:=r2yes hG.1
      subst m20
      have e:r2=orr:=(hm2.imp fun v u v0 v1 u0 u1=>by rw[hG.2.2 u v u0 u1 v0 v1]).eq (mx_of hG.1) (by have:=hG.1.1;omega)
      subst e
      exact ev_pos z (Ev.bind r2i (ev_pos c20 (Ev.bind (dig_self _ _ (Nat.le_trans r62 (by decide))) (ev_pos rfl h12))))
    · exact ev_neg z h12
  have h10:Ev (fun z=>Qaa.j10 z rc gq oc a b t w wc xn xr rm rr om orr yn yr) true:=by
    refine ev_k ?_
    simp only[Qaa.j10]
    by_cases z:wc=0
    · obtain⟨⟨hR,hA,hB⟩,e,hrev⟩:=wyes z
      obtain⟨m2,r2,c2,_,_,r2i,r2yes,_⟩:=rev_val yn yr
      obtain⟨c20,m20,hm2⟩:=r2yes hR
      subst m20
      have wi2:=hrev r2 (hm2.rows hR.1 hR.2.1)
      rw[walks_rev hR hm2 hA.1 hA.2 hB.1 hB.2 t,← e]at wi2
      exact ev_pos z (Ev.bind r2i (Ev.bind wi2 (ev_pos c20 (ev_pos rfl (ev_pos rfl h11)))))
    · exact ev_neg z h11
  have h9:∀q,(q=true→mc=0∧mb=true)→Ev (fun z=>Qaa.j9 z rc gq oc a b t w wc q xn xr rm rr om orr yn yr zn zr) true:=by
    intro q hq
    refine ev_k ?_
    simp only[Qaa.j9]
    by_cases z:q=true
    · obtain⟨m0,m1⟩:=hq z
      obtain⟨g',k',gi',ki',bi'⟩:=myes m0 m1 hzn
      exact ev_pos z (Ev.bind gi' (Ev.bind ki' (Ev.bind bi' (ev_pos rfl (ev_pos rfl (ev_pos rfl (ev_pos rfl h10)))))))
    · exact ev_neg z h10
  have h8:∀q,q=false→Ev (fun z=>Qaa.j8 z rc gq oc a b t w wc mb mc q xn xr rm rr om orr yn yr zn zr) true:=by
    rintro q rfl
    refine ev_k ?_
    simp only[Qaa.j8]
    refine ev_neg (by simp) ?_
    by_cases z:mc=0
    · exact ev_pos z (h9 _ fun y=>⟨z,y⟩)
    · exact ev_neg z (h9 _ fun y=>by cases y)
  have h7:∀q,q=false→Ev (fun z=>Qaa.j7 z rc gq oc a b t w wc mb mc uc sb sc q xn xr rm rr om orr yn yr zn zr) true:=by
    rintro q rfl
    refine ev_k ?_
    simp only[Qaa.j7]
    refine ev_neg (by simp) ?_
    by_cases z:sc=0
    · refine ev_pos z (h8 _ ?_)
      have:=syes z
      simp only at this
      rw[this]
      simp
    · exact ev_neg z (h8 _ rfl)
  refine Ev.bind d1 (Ev.bind ri (Ev.bind rs (ev_pos rfl (Ev.bind (dig_self rm rr (by omega)) (ev_pos rfl (ev_bind0 ii (Ev.bind is1 (ev_k ?_))))))))
  simp only[Qaa.j0]
  refine ev_neg (by simp) (Ev.bind gi (Ev.bind gs (ev_pos rfl (Ev.bind (rows_self g (by omega) fun x hx=>by have:=hgx x hx;omega) (ev_k ?_)))))
  simp only[Qaa.j1]
  refine ev_neg (by simp) (Ev.bind d2 (Ev.bind oi (Ev.bind os (ev_pos rfl (Ev.bind (dig_self om orr hor) (ev_k ?_))))))
  simp only[Qaa.j2]
  refine ev_neg (by simp) (Ev.bind d3 (Ev.bind wi (Ev.bind ws (ev_pos rfl (ev_k ?_)))))
  simp only[Qaa.j3]
  refine ev_neg (by simp) (Ev.bind d4 (Ev.bind mi (Ev.bind ms (ev_pos rfl (ev_k ?_)))))
  simp only[Qaa.j4]
  refine ev_neg (by simp) (Ev.bind d5 (Ev.bind ui (Ev.bind us (ev_pos rfl (ev_k ?_)))))
  simp only[Qaa.j5]
  refine ev_neg (by simp) (Ev.bind si (Ev.bind ss (ev_pos rfl (ev_k ?_))))
  simp only[Qaa.j6]
  exact ev_neg (by simp) (Ev.bind d6 (Ev.bind ei (Ev.bind es (ev_pos rfl (h7 _ (by simp))))))
end Go.Proofs.YtmofdldplbplbaaDoor.Pure
