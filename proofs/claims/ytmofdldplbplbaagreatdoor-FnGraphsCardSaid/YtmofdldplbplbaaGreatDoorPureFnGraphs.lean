/- The pure law and what it leans on, in one text (wip/bin/bundle). -/
import Derived.Test.YtmofdldplbplbaaGreatDoorMFG1
import Derived.Test.YtmofdldplbplbaaGreatDoorMFG17
import Derived.Test.YtmofdldplbplbaaGreatDoorMFG18
import Derived.Test.YtmofdldplbplbaaGreatDoorMFG22
import Derived.Test.YtmofdldplbplbaaGreatDoorMFG23
import Derived.Test.YtmofdldplbplbaaGreatDoorMFG9
import Derived.Test.YtmofdldplbplbaaGreatDoorMFG10
import Derived.Test.YtmofdldplbplbaaGreatDoorMFG13
import Derived.Test.YtmofdldplbplbaaGreatDoorMFG7
import Derived.Test.YtmofdldplbplbaaGreatDoorMFG8
import Derived.Test.YtmofdldplbplbaaGreatDoorMFG11
import Derived.Test.YtmofdldplbplbaaGreatDoorMFG16
import Derived.Test.YtmofdldplbplbaaGreatDoorWA
import Derived.Test.YtmofdldplbplbaaGreatDoorWBMore
import Derived.Lib.Join
import Derived.Lib.ItoaNum
import Derived.Test.YtmofdldplbplbaaGreatDoorMFG14
import Derived.Laws.BitsLemmas
import Derived.Lib.TrailingZeros
import Derived.Test.YtmofdldplbplbaaGreatDoorMFG4
import Derived.Test.YtmofdldplbplbaaGreatDoorMFG21
import Derived.Test.YtmofdldplbplbaaGreatDoorMFG12
import Derived.Test.YtmofdldplbplbaaGreatDoorMFG20
import Derived.WideShapes
import Derived.Test.YtmofdldplbplbaaGreatDoorMFG19
import Derived.Test.YtmofdldplbplbaaGreatDoorMFG15
import Derived.Test.YtmofdldplbplbaaGreatDoorMFG5
import Derived.Test.YtmofdldplbplbaaGreatDoorMFG6
import Derived.Test.YtmofdldplbplbaaGreatDoorMFG2
import Derived.Test.YtmofdldplbplbaaGreatDoorMFG3
set_option linter.unusedVariables false
set_option linter.unusedSimpArgs false
namespace Go.Proofs.YtmofdldplbplbaaGreatDoor.Q
open Go Go.RowKit Go.Proofs.YtmofdldplbplbaaGreatDoorW.PrintWords Go.Proofs.YtmofdldplbplbaaGreatDoorW.PrintMore Go.Proofs.YtmofdldplbplbaaGreatDoorW.PrintLast Go.Proofs.YtmofdldplbplbaaGreatDoor.P
theorem ev_k {α:Type} {g:Nat→Option α} {r:α} (h:Ev (fun k=>g (k+1)) r):Ev g r:=Ev.step (fun _=>rfl) h
theorem ev_some {α:Type} {r s:α} (h:r=s):Ev (fun _=>some r) s:=h ▸ Ev.now r
theorem ev_pos {α:Type} {c:Prop} [Decidable c] {f g:Nat→Option α} {r:α} (h:c) (H:Ev f r):Ev (fun k=>if c then f k else g k) r:=
 Ev.congr (fun _=>if_pos h) H
theorem ev_neg {α:Type} {c:Prop} [Decidable c] {f g:Nat→Option α} {r:α} (h:¬c) (H:Ev g r):Ev (fun k=>if c then f k else g k) r:=
 Ev.congr (fun _=>if_neg h) H
theorem ev_of {α:Type} {o:Option α} {r:α} (h:o=some r):Ev (fun _=>o) r:=⟨0,fun _ _=>h⟩
theorem ev_bind0 {α β:Type} {o:Option α} {f:Nat→α→Option β} {a:α} {r:β} (h:o=some a) (H:Ev (fun n=>f n a) r):Ev (fun n=>o.bind (f n)) r:=
 Ev.bind (ev_of h) H
theorem w64 {a:Int} (h0:-9223372036854775808≤a) (h1:a<9223372036854775808):wrap64 a=a:=by
 unfold wrap64
 omega
def Says (g:Nat→Option Bool) (P:Prop):Prop:=∃b:Bool,Ev g b∧(b=true↔P)
theorem says_iff {g:Nat→Option Bool} {P R:Prop} (h:P↔R) (H:Says g R):Says g P:=by
 obtain⟨b,hb,e⟩:=H
 exact⟨b,hb,e.trans h.symm⟩
theorem says_k {g:Nat→Option Bool} {P:Prop} (H:Says (fun k=>g (k+1)) P):Says g P:=by
 obtain⟨b,hb,e⟩:=H
 exact⟨b,ev_k hb,e⟩
theorem says_pos {c:Prop} [Decidable c] {f g:Nat→Option Bool} {P:Prop} (h:c) (H:Says f P):Says (fun k=>if c then f k else g k) P:=by
 obtain⟨b,hb,e⟩:=H
 exact⟨b,ev_pos h hb,e⟩
theorem says_neg {c:Prop} [Decidable c] {f g:Nat→Option Bool} {P:Prop} (h:¬c) (H:Says g P):Says (fun k=>if c then f k else g k) P:=by
 obtain⟨b,hb,e⟩:=H
 exact⟨b,ev_neg h hb,e⟩
theorem says_true {P:Prop} (h:P):Says (fun _=>some true) P:=⟨true,Ev.now _,by simp[h]⟩
theorem says_false {P:Prop} (h:¬P):Says (fun _=>some false) P:=⟨false,Ev.now _,by simp[h]⟩
theorem Says.yes {g:Nat→Option Bool} {P:Prop} (H:Says g P) (h:P):Ev g true:=by
 obtain⟨b,hb,e⟩:=H
 rw[e.2 h]at hb
 exact hb
theorem Says.no {g:Nat→Option Bool} {P:Prop} (H:Says g P) (h:¬P):Ev g false:=by
 obtain⟨b,hb,e⟩:=H
 cases b with
 |true=>exact absurd (e.1 rfl) h
 |false=>exact hb
def dig (n:Int):List UInt8:=Lib.decDigits n.toNat
theorem dig_one {n:Int} (h:n<10):dig n=[UInt8.ofNat (48+n.toNat)]:=by
 unfold dig
 rw[Lib.decDigits,dif_pos (by omega)]
theorem dig_two {n:Int} (h:10≤n) (h1:n<100):dig n=[UInt8.ofNat (48+n.toNat/10),UInt8.ofNat (48+n.toNat % 10)]:=by
 unfold dig
 rw[Lib.decDigits,dif_neg (by omega),Lib.decDigits,dif_pos (by omega)]
 rfl
def numL (acc:Int):List UInt8→Option Int
 |[]=>some acc
 |c :: r=>if c.toNat<48∨57<c.toNat then none else numL (acc*10+((c.toNat:Int)-48)) r
def num (s:List UInt8):Option Int:=if s.length=0∨9<s.length∨(1<s.length∧s.head? =some 48)then none else numL 0 s
theorem numL_low (s:List UInt8):∀(acc n:Int),0≤acc→numL acc s=some n→acc*10 ^ s.length≤n:=by
 induction s with
 |nil=>
  intro acc n _ h
  simp only[numL,Option.some.injEq]at h
  simp[h]
 |cons c r ih=>
  intro acc n ha h
  simp only[numL]at h
  split at h
  ·cases h
  rename_i hc
  have:=ih (acc*10+((c.toNat:Int)-48)) n (by omega) h
  have e:(10:Int) ^ (c :: r).length=10*10 ^ r.length:=by rw[List.length_cons,Int.pow_succ,Int.mul_comm]
  rw[e]
  have p:(0:Int)<10 ^ r.length:=Int.pow_pos (by decide)
  have q:acc*(10*10 ^ r.length)≤(acc*10+((c.toNat:Int)-48))*10 ^ r.length:=by
   rw[← Int.mul_assoc]
   exact Int.mul_le_mul_of_nonneg_right (by omega) (by omega)
  omega
theorem num_low {s:List UInt8} {n:Int} (h:num s=some n):0≤n:=by
 unfold num at h
 split at h
 ·cases h
 ·have:=numL_low s 0 n (by omega) h
  omega
theorem num_dig {n:Int} (h0:0≤n) (h1:n<100):num (dig n)=some n:=by
 obtain⟨m,rfl⟩:=Int.eq_ofNat_of_zero_le h0
 by_cases z:m<10
 ·rw[dig_one (by omega)]
  have e:(UInt8.ofNat (48+m)).toNat=48+m:=by simp;omega
  simp only[num,numL,Int.toNat_natCast,List.length_singleton,e]
  rw[if_neg (by omega),if_neg (by omega)]
  congr 1
  omega
 ·rw[dig_two (by omega) h1]
  have e:(UInt8.ofNat (48+m/10)).toNat=48+m/10:=by simp;omega
  have f:(UInt8.ofNat (48+m % 10)).toNat=48+m % 10:=by simp;omega
  have ne:UInt8.ofNat (48+m/10)≠48:=fun q=>by
   have:=congrArg UInt8.toNat q
   rw[e]at this
   have:(48:UInt8).toNat=48:=rfl
   omega
  simp only[num,numL,Int.toNat_natCast,List.length_cons,List.length_nil,List.head?_cons,Option.some.injEq,e,f]
  rw[if_neg (by rintro(q|q|⟨_,q⟩);omega;omega;exact ne q),if_neg (by omega),if_neg (by omega)]
  congr 1
  omega
theorem u8_of {c:UInt8} {m:Nat} (h:c.toNat=m):c=UInt8.ofNat m:=by
 rw[← h]
 simp
theorem dig_num {s:List UInt8} {n:Int} (h:num s=some n) (h1:n<100):s=dig n:=by
 have h0:=num_low h
 unfold num at h
 split at h
 ·cases h
 rename_i hc
 match s,hc,h with
 |[],hc,_=>exact absurd (.inl rfl) hc
 |[c],_,h=>
  simp only[numL]at h
  split at h
  ·cases h
  rename_i hcc
  have:=Option.some.inj h
  rw[dig_one (by omega),u8_of (c:=c) (m:=48+n.toNat) (by omega)]
 |[c,d],hc,h=>
  simp only[numL]at h
  split at h
  ·cases h
  split at h
  ·cases h
  rename_i hcc hdd
  have:=Option.some.inj h
  have ne:c.toNat≠48:=fun q=>hc (.inr (.inr ⟨by simp,by rw[List.head?_cons,u8_of q];rfl⟩))
  rw[dig_two (by omega) h1,u8_of (c:=c) (m:=48+n.toNat/10) (by omega),u8_of (c:=d) (m:=48+n.toNat % 10) (by omega)]
 |c :: d :: e :: r,hc,h=>
  simp only[numL]at h
  split at h
  ·cases h
  split at h
  ·cases h
  split at h
  ·cases h
  rename_i h2 h3 h4
  have ne:c.toNat≠48:=fun q=>hc (.inr (.inr ⟨by simp,by rw[List.head?_cons,u8_of q];rfl⟩))
  have:=numL_low r _ n (by omega) h
  have p:(1:Int)≤10 ^ r.length:=Int.pow_pos (by decide)
  have q:(100:Int)*1≤(((0*10+((c.toNat:Int)-48))*10+((d.toNat:Int)-48))*10+((e.toNat:Int)-48))*10 ^ r.length:=Int.mul_le_mul (by omega) p (by omega) (by omega)
  omega
theorem dig_len {n:Int} (h1:n<100):(dig n).length≤2:=by
 by_cases z:n<10
 ·rw[dig_one z]
  simp
 ·rw[dig_two (by omega) h1]
  simp
theorem dig_in {n:Int} (h1:n<100) {c:UInt8} (hc:c ∈ dig n):48≤c.toNat:=by
 by_cases z:n<10
 ·rw[dig_one z]at hc
  rw[List.mem_singleton.1 hc]
  simp
  omega
 ·rw[dig_two (by omega) h1]at hc
  simp only[List.mem_cons,List.not_mem_nil,or_false]at hc
  rcases hc with rfl|rfl
  ·simp
   omega
  ·simp
   omega
theorem dig_not {n:Int} (h1:n<100) {c:UInt8} (hc:c.toNat<48∨57<c.toNat):c ∉ dig n:=fun h=>by
 have a:=dig_in h1 h
 by_cases z:n<10
 ·rw[dig_one z]at h
  have:=congrArg UInt8.toNat (List.mem_singleton.1 h)
  simp at this
  omega
 ·rw[dig_two (by omega) h1]at h
  simp only[List.mem_cons,List.not_mem_nil,or_false]at h
  rcases h with rfl|rfl
  ·simp at hc
   omega
  ·simp at hc
   omega
def sp (c:UInt8):List UInt8→List (List UInt8)
 |[]=>[[]]
 |x :: r=>if x=c then[] :: sp c r else match sp c r with
  |[]=>[[x]]
  |h :: t=>(x :: h) :: t
theorem sp_none {c:UInt8} {s:List UInt8} (h:c ∉ s):sp c s=[s]:=by
 induction s with
 |nil=>rfl
 |cons x r ih=>
  simp only[List.mem_cons,not_or]at h
  simp only[sp,ih h.2]
  rw[if_neg fun q=>h.1 q.symm]
theorem sp_cut {c:UInt8} {a:List UInt8} (h:c ∉ a) (r:List UInt8):sp c (a++c :: r)=a :: sp c r:=by
 induction a with
 |nil=>simp[sp]
 |cons x a ih=>
  simp only[List.mem_cons,not_or]at h
  rw[List.cons_append]
  simp only[sp,ih h.2]
  rw[if_neg fun q=>h.1 q.symm]
theorem sp_ne (c:UInt8) (s:List UInt8):∃h t,sp c s=h :: t:=by
 cases s with
 |nil=>exact⟨_,_,rfl⟩
 |cons x r=>
  simp only[sp]
  split
  ·exact⟨_,_,rfl⟩
  ·split
   ·exact⟨_,_,rfl⟩
   ·exact⟨_,_,rfl⟩
theorem join_two (x y:List UInt8) (r:List (List UInt8)) (c:List UInt8):Lib.join (x :: y :: r) c=x++(c++Lib.join (y :: r) c):=by
 rw[Lib.join_cons,Lib.join_cons]
 simp[Lib.joinTail]
theorem join_sp (c:UInt8) (s:List UInt8):Lib.join (sp c s) [c]=s:=by
 induction s with
 |nil=>rfl
 |cons x r ih=>
  obtain⟨h,t,e⟩:=sp_ne c r
  simp only[sp]
  rw[e]at ih ⊢
  split
  ·rename_i q
   rw[join_two,ih,q]
   rfl
  ·cases t with
   |nil=>
    rw[Lib.join_one]at ih ⊢
    rw[ih]
   |cons y t=>
    rw[join_two]at ih ⊢
    rw[← ih]
    rfl
theorem sp_join {c:UInt8} (xs:List (List UInt8)):xs≠[]→(∀x ∈ xs,c ∉ x)→sp c (Lib.join xs [c])=xs:=by
 induction xs with
 |nil=>exact fun h=>absurd rfl h
 |cons x r ih=>
  intro _ h
  cases r with
  |nil=>
   rw[Lib.join_one]
   exact sp_none (h x (List.mem_cons_self ..))
  |cons y r=>
   rw[join_two,List.singleton_append,sp_cut (h x (List.mem_cons_self ..)),ih (by simp) fun z hz=>h z (List.mem_cons_of_mem _ hz)]
def et (e:List Int):List UInt8:=dig (rd e 0)++45 :: dig (rd e 1)
def gtx (n:Int) (E:List (List Int)):List UInt8:=dig n++58 :: Lib.join (E.map et) [44]
def okE (n:Int):Int→List (List Int)→Prop
 |_,[]=>True
 |b4,e :: E=>∃a b,e=[a,b]∧(0≤a∧a<b∧b<n)∧b4<a*n+b∧okE n (a*n+b) E
theorem et_sp {a b:Int} (a1:a<100) (b1:b<100):sp 45 (et [a,b])=[dig a,dig b]:=by
 show sp 45 (dig a++45 :: dig b)=_
 rw[sp_cut (dig_not a1 (by decide)),sp_none (dig_not b1 (by decide))]
theorem sp_et {p u v:List UInt8} {a b:Int} (h:sp 45 p=[u,v]) (hu:num u=some a) (hv:num v=some b) (a1:a<100) (b1:b<100):p=et [a,b]:=by
 have:=join_sp 45 p
 rw[h,join_two,Lib.join_one,dig_num hu a1,dig_num hv b1]at this
 exact this.symm
theorem et_not {n:Int} (n2:n≤62) {b4:Int} {E:List (List Int)} (h:okE n b4 E) {c:UInt8} (hc:(c.toNat<48∨57<c.toNat)∧c≠45):∀x ∈ E.map et,c ∉ x:=by
 induction E generalizing b4 with
 |nil=>simp
 |cons e E ih=>
  obtain⟨a,b,rfl,hab,_,h⟩:=h
  intro x hx
  rw[List.map_cons,List.mem_cons]at hx
  rcases hx with rfl|hx
  ·show c ∉ dig a++45 :: dig b
   simp only[List.mem_append,List.mem_cons,not_or]
   exact⟨dig_not (by omega) hc.1,hc.2,dig_not (by omega) hc.1⟩
  ·exact ih h x hx
theorem okE_mem {n:Int} {b4:Int} {E:List (List Int)} (h:okE n b4 E):∀e ∈ E,∃a b,e=[a,b]∧0≤a∧a<b∧b<n:=by
 induction E generalizing b4 with
 |nil=>simp
 |cons e E ih=>
  obtain⟨a,b,rfl,hab,_,h⟩:=h
  intro x hx
  rcases List.mem_cons.1 hx with rfl|hx
  ·exact⟨a,b,rfl,hab⟩
  ·exact ih h x hx
def ky (n:Int) (e:List Int):Int:=rd e 0*n+rd e 1
theorem okE_low {n:Int} {b4:Int} {E:List (List Int)} (h:okE n b4 E):∀e ∈ E,b4<ky n e:=by
 induction E generalizing b4 with
 |nil=>simp
 |cons e E ih=>
  obtain⟨a,b,rfl,hab,hk,h⟩:=h
  intro x hx
  have e:ky n [a,b]=a*n+b:=rfl
  rcases List.mem_cons.1 hx with rfl|hx
  ·omega
  ·have:=ih h x hx
   omega
theorem okE_ext {n:Int} {E:List (List Int)}:∀{F:List (List Int)} {b c:Int},okE n b E→okE n c F→(∀e,e ∈ E↔e ∈ F)→E=F:=by
 induction E with
 |nil=>
  intro F b c _ _ h
  cases F with
  |nil=>rfl
  |cons f F=>exact absurd ((h f).2 (List.mem_cons_self ..)) (by simp)
 |cons e E ih=>
  intro F b c hE hF h
  cases F with
  |nil=>exact absurd ((h e).1 (List.mem_cons_self ..)) (by simp)
  |cons f F=>
   obtain⟨a1,b1,rfl,_,_,hE⟩:=hE
   obtain⟨a2,b2,rfl,_,_,hF⟩:=hF
   have lE:=okE_low hE
   have lF:=okE_low hF
   have kE:ky n [a1,b1]=a1*n+b1:=rfl
   have kF:ky n [a2,b2]=a2*n+b2:=rfl
   have ef:[a1,b1]=[a2,b2]:=by
    rcases List.mem_cons.1 ((h _).1 (List.mem_cons_self ..)) with q|q
    ·exact q
    rcases List.mem_cons.1 ((h _).2 (List.mem_cons_self ..)) with r|r
    ·exact r.symm
    have x:=lF _ q
    have y:=lE _ r
    omega
   simp only[List.cons.injEq,and_true]at ef
   obtain⟨rfl,rfl⟩:=ef
   refine congrArg _ (ih hE hF fun x=>⟨fun hx=>?_,fun hx=>?_⟩)
   ·rcases List.mem_cons.1 ((h x).1 (List.mem_cons_of_mem _ hx)) with rfl|q
    ·have:=lE _ hx
     omega
    ·exact q
   ·rcases List.mem_cons.1 ((h x).2 (List.mem_cons_of_mem _ hx)) with rfl|q
    ·have:=lF _ hx
     omega
    ·exact q
theorem key_up {n a b:Int} (a0:0≤a) (hab:a<b) (hb:b<n):0≤a*n+b∧a*n+b<n*n:=by
 have x:0≤a*n:=Int.mul_nonneg a0 (by omega)
 have y:(a+1)*n≤n*n:=Int.mul_le_mul_of_nonneg_right (by omega) (by omega)
 rw[Int.add_mul]at y
 omega
theorem okE_len {n:Int} {b4:Int} {E:List (List Int)} (h:okE n b4 E) (h4:b4<n*n):(E.length:Int)≤n*n-1-b4:=by
 induction E generalizing b4 with
 |nil=>simp;omega
 |cons e E ih=>
  obtain⟨a,b,rfl,hab,hk,h⟩:=h
  have:=key_up hab.1 hab.2.1 hab.2.2
  have:=ih h (by omega)
  simp only[List.length_cons]
  omega
theorem join_len (xs:List (List UInt8)) (m:Nat) (c:UInt8) (h:∀x ∈ xs,x.length≤m):(Lib.join xs [c]).length≤xs.length*(m+1):=by
 induction xs with
 |nil=>simp[Lib.join_nil]
 |cons x r ih=>
  have hx:=h x (List.mem_cons_self ..)
  have ih:=ih fun z hz=>h z (List.mem_cons_of_mem _ hz)
  cases r with
  |nil=>
   rw[Lib.join_one]
   simp
   omega
  |cons y r=>
   rw[join_two]
   simp only[List.length_append,List.length_cons,List.length_nil,Nat.add_mul,Nat.one_mul]at ih ⊢
   omega
theorem et_len {n:Int} (n2:n≤62) {b4:Int} {E:List (List Int)} (h:okE n b4 E):∀x ∈ E.map et,x.length≤5:=by
 intro x hx
 obtain⟨e,he,rfl⟩:=List.mem_map.1 hx
 obtain⟨a,b,rfl,hab⟩:=okE_mem h e he
 show(dig a++45 :: dig b).length≤5
 have:=dig_len (n:=a) (by omega)
 have:=dig_len (n:=b) (by omega)
 simp
 omega
theorem gtx_len {n:Int} (n1:1≤n) (n2:n≤62) {E:List (List Int)} (h:okE n (-1) E):E.length≤3844∧(gtx n E).length≤24000∧(Lib.join (E.map et) [44]).length≤23064:=by
 have q:n*n≤62*62:=Int.mul_le_mul n2 n2 (by omega) (by omega)
 have q0:0<n*n:=Int.mul_pos (by omega) (by omega)
 have a:=okE_len h (by omega)
 have b:=join_len (E.map et) 5 44 (et_len n2 h)
 have c:=dig_len (n:=n) (by omega)
 rw[List.length_map]at b
 refine⟨by omega,?_,by omega⟩
 unfold gtx
 simp only[List.length_append,List.length_cons]
 omega
theorem head_of {n:Int} (n2:n≤62) {E:List (List Int)} {b4:Int} (h:okE n b4 E):sp 58 (gtx n E)=[dig n,Lib.join (E.map et) [44]]:=by
 unfold gtx
 rw[sp_cut (dig_not (by omega) (by decide)),sp_none]
 intro q
 have:∀(xs:List (List UInt8)),(∀x ∈ xs,(58:UInt8) ∉ x)→(58:UInt8) ∉ Lib.join xs [44]:=by
  intro xs
  induction xs with
  |nil=>intro _;simp[Lib.join_nil]
  |cons x r ih=>
   intro hx
   cases r with
   |nil=>
    rw[Lib.join_one]
    exact hx x (List.mem_cons_self ..)
   |cons y r=>
    rw[join_two]
    simp only[List.mem_append,List.mem_singleton,not_or]
    exact⟨hx x (List.mem_cons_self ..),by decide,ih fun z hz=>hx z (List.mem_cons_of_mem _ hz)⟩
 exact this _ (et_not n2 h (by decide)) q
theorem of_head {t x y:List UInt8} (h:sp 58 t=[x,y]) {n:Int} (hn:num x=some n) (n2:n<100):t=dig n++58 :: y:=by
 have:=join_sp 58 t
 rw[h,join_two,Lib.join_one,dig_num hn n2]at this
 exact this.symm
theorem join_ne {n:Int} {E:List (List Int)} {b4:Int} (h:okE n b4 E) (he:E≠[]):Lib.join (E.map et) [44]≠[]:=by
 cases E with
 |nil=>exact absurd rfl he
 |cons e E=>
  obtain⟨a,b,rfl,_⟩:=h
  rw[List.map_cons,Lib.join_cons]
  show dig a++45 :: dig b++_≠[]
  simp
theorem parts_of {n:Int} (n2:n≤62) {E:List (List Int)} {b4:Int} (h:okE n b4 E) (he:E≠[]):sp 44 (Lib.join (E.map et) [44])=E.map et:=
 sp_join _ (by simpa using he) (et_not n2 h (by decide))
def tb (x i:Int):Bool:=decide (x/2 ^ i.toNat % 2=1)
theorem wu64 {a:Int} (h0:0≤a) (h1:a<18446744073709551616):IntKind.u64.wrap a=a:=by
 simp[IntKind.wrap,IntKind.bits,IntKind.signed]
 omega
theorem w64' (a:Int):IntKind.i64.wrap a=wrap64 a:=by
 rw[IntKind.wrap_i64]
 unfold wrap64
 rfl
theorem and_one (a:Int):bits .and .i64 a 1=a % 2:=by
 have e:(BitVec.ofInt 64 a &&& BitVec.ofInt 64 1).toNat=(a % 2).toNat:=by
  rw[BitVec.toNat_and,show(BitVec.ofInt 64 1).toNat=1 from rfl,Nat.and_one_is_mod,BitVec.toNat_ofInt]
  omega
 show IntKind.i64.wrap (((BitVec.ofInt 64 a &&& BitVec.ofInt 64 1).toNat:Nat):Int)=a % 2
 rw[e,w64']
 rw[w64]<;>omega
theorem shr_at {x i:Int} (i0:0≤i) (i1:i≤63):shr .i64 x i=x/2 ^ i.toNat:=by
 unfold shr
 rw[Nat.min_eq_left (by simp[IntKind.bits];omega)]
theorem bit_at {x i:Int} (i0:0≤i) (i1:i≤63):bits .and .i64 (shr .i64 x i) 1=if tb x i then 1 else 0:=by
 rw[and_one,shr_at i0 i1]
 unfold tb
 have:=Int.emod_two_eq (x/2 ^ i.toNat)
 rcases this with h|h<;>simp[h]
theorem bit_is {x i:Int} (i0:0≤i) (i1:i≤63):(bits .and .i64 (shr .i64 x i) 1==1)=tb x i:=by
 rw[bit_at i0 i1]
 cases tb x i<;>rfl
theorem bit_eq {x y i j:Int} (i0:0≤i) (i1:i≤63) (j0:0≤j) (j1:j≤63):bits .and .i64 (shr .i64 x i) 1=bits .and .i64 (shr .i64 y j) 1↔tb x i=tb y j:=by
 rw[bit_at i0 i1,bit_at j0 j1]
 cases tb x i<;>cases tb y j<;>simp
theorem two_pow_le {n:Int} (h0:0≤n) (h1:n≤62):(1:Int)≤2 ^ n.toNat∧(2:Int) ^ n.toNat≤4611686018427387904:=by
 have e:((2:Int) ^ n.toNat)=((2 ^ n.toNat:Nat):Int):=by simp
 have a:2 ^ n.toNat≤2 ^ 62:=Nat.pow_le_pow_right (by decide) (by omega)
 have b:1≤2 ^ n.toNat:=Nat.one_le_two_pow
 rw[e]
 omega
theorem shl_one {n:Int} (h0:0≤n) (h1:n≤62):shl .i64 1 n=2 ^ n.toNat:=by
 have:=two_pow_le h0 h1
 unfold shl
 rw[Nat.min_eq_left (by simp[IntKind.bits];omega),Int.one_mul,w64',w64]<;>omega
theorem tb_nat (x i:Nat):tb (x:Int) (i:Int)=x.testBit i:=by
 unfold tb
 rw[Nat.testBit_eq_decide_div_mod_eq]
 have:((x:Int)/2 ^ i) % 2=((x/2 ^ i % 2:Nat):Int):=by simp
 rw[Int.toNat_natCast,this]
 exact decide_eq_decide.2 (by omega)
theorem tb_toNat {x i:Int} (h0:0≤x) (i0:0≤i):tb x i=x.toNat.testBit i.toNat:=by
 rw[← tb_nat,Int.toNat_of_nonneg h0,Int.toNat_of_nonneg i0]
theorem tb_high {x i n:Int} (h0:0≤x) (h1:x<2 ^ n.toNat) (n0:0≤n) (hi:n≤i):tb x i=false:=by
 rw[tb_toNat h0 (by omega)]
 refine Nat.testBit_lt_two_pow ?_
 have e:((2:Int) ^ n.toNat)=((2 ^ n.toNat:Nat):Int):=by simp
 rw[e]at h1
 have:x.toNat<2 ^ n.toNat:=by omega
 exact Nat.lt_of_lt_of_le this (Nat.pow_le_pow_right (by decide) (by omega))
theorem tb_ext {x y n:Int} (x0:0≤x) (x1:x<2 ^ n.toNat) (y0:0≤y) (y1:y<2 ^ n.toNat) (n0:0≤n) (h:∀i,0≤i→i<n→tb x i=tb y i):x=y:=by
 have:x.toNat=y.toNat:=by
  refine Nat.eq_of_testBit_eq fun i=>?_
  by_cases hi:(i:Int)<n
  ·have:=h i (by omega) hi
   rwa [tb_toNat x0 (by omega),tb_toNat y0 (by omega),Int.toNat_natCast]at this
  ·have a:=tb_high (i:=i) x0 x1 n0 (by omega)
   have b:=tb_high (i:=i) y0 y1 n0 (by omega)
   rw[tb_toNat x0 (by omega),Int.toNat_natCast]at a
   rw[tb_toNat y0 (by omega),Int.toNat_natCast]at b
   rw[a,b]
 omega
theorem and_nat (a b:Nat) (ha:a<2 ^ 63) (hb:b<2 ^ 63):bits .and .i64 a b=((a &&& b:Nat):Int):=
 (bits_nat .i64 63 (by decide) (fun n h0 h1=>by rw[w64',w64]<;>omega) a b ha hb).1
theorem or_nat (a b:Nat) (ha:a<2 ^ 63) (hb:b<2 ^ 63):bits .or .i64 a b=((a ||| b:Nat):Int):=
 (bits_nat .i64 63 (by decide) (fun n h0 h1=>by rw[w64',w64]<;>omega) a b ha hb).2
theorem uand_nat (a b:Nat) (ha:a<2 ^ 64) (hb:b<2 ^ 64):bits .and .u64 a b=((a &&& b:Nat):Int):=
 (bits_nat .u64 64 (by decide) (fun n h0 h1=>wu64 h0 (by omega)) a b ha hb).1
set_option linter.unusedVariables false in
theorem andNot_nat (a b:Nat) (ha:a<2 ^ 63) (hb:b<2 ^ 63):∃c:Nat,bits .andNot .i64 a b=(c:Int)∧c<2 ^ 63∧∀i,c.testBit i=(a.testBit i&&!b.testBit i):=by
 refine⟨(BitVec.ofInt 64 a &&& ~~~ BitVec.ofInt 64 b).toNat,?_,?_,?_⟩
 ·show IntKind.i64.wrap (((BitVec.ofInt 64 a &&& ~~~ BitVec.ofInt 64 b).toNat:Nat):Int)=_
  have:(BitVec.ofInt 64 a &&& ~~~ BitVec.ofInt 64 b).toNat<2 ^ 63:=by
   simp only[BitVec.ofInt_natCast,BitVec.toNat_and,BitVec.toNat_ofNat]
   have:(a % 2 ^ 64 &&& (~~~ BitVec.ofNat 64 b).toNat)≤a % 2 ^ 64:=Nat.and_le_left
   have:a % 2 ^ 64=a:=Nat.mod_eq_of_lt (by omega)
   omega
  rw[w64',w64]<;>omega
 ·simp only[BitVec.ofInt_natCast,BitVec.toNat_and,BitVec.toNat_ofNat]
  have:(a % 2 ^ 64 &&& (~~~ BitVec.ofNat 64 b).toNat)≤a % 2 ^ 64:=Nat.and_le_left
  have:a % 2 ^ 64=a:=Nat.mod_eq_of_lt (by omega)
  omega
 ·intro i
  simp only[BitVec.ofInt_natCast]
  rw[BitVec.testBit_toNat,BitVec.getLsbD_and,BitVec.getLsbD_not,BitVec.getLsbD_ofNat,BitVec.getLsbD_ofNat]
  by_cases hi:i<64
  ·simp[hi]
  ·simp[hi]
   intro h
   have:=Nat.testBit_lt_two_pow (Nat.lt_of_lt_of_le ha (Nat.pow_le_pow_right (by decide) (show 63≤i by omega)))
   simp[this]at h
def rows (n:Int) (l:List Int):Prop:=1≤n∧n≤62∧(l.length:Int)=n∧∀v,0≤v→v<n→0≤rd l v∧rd l v<2 ^ n.toNat
def isG (n:Int) (l:List Int):Prop:=rows n l∧(∀v,0≤v→v<n→tb (rd l v) v=false)∧∀v w,0≤v→v<n→0≤w→w<n→tb (rd l v) w=tb (rd l w) v
theorem rows.nat {n:Int} {l:List Int} (h:rows n l) {v:Int} (h0:0≤v) (h1:v<n):∃x:Nat,rd l v=(x:Int)∧x<2 ^ n.toNat∧x<2 ^ 62:=by
 obtain⟨a,b,c,d⟩:=h
 obtain⟨d0,d1⟩:=d v h0 h1
 have e:((2:Int) ^ n.toNat)=((2 ^ n.toNat:Nat):Int):=by simp
 have p:2 ^ n.toNat≤2 ^ 62:=Nat.pow_le_pow_right (by decide) (by omega)
 rw[e]at d1
 exact⟨(rd l v).toNat,by omega,by omega,by omega⟩
def Mx (n:Int) (l:List Int) (P:Int→Int→Prop):Prop:=(l.length:Int)=n∧∀v,0≤v→v<n→(0≤rd l v∧rd l v<2 ^ n.toNat)∧∀w,0≤w→w<n→(tb (rd l v) w=true↔P v w)
theorem Mx.imp {n:Int} {l:List Int} {P Q:Int→Int→Prop} (h:Mx n l P) (e:∀v w,0≤v→v<n→0≤w→w<n→(P v w↔Q v w)):Mx n l Q:=
 ⟨h.1,fun v v0 v1=>⟨(h.2 v v0 v1).1,fun w w0 w1=>((h.2 v v0 v1).2 w w0 w1).trans (e v w v0 v1 w0 w1)⟩⟩
theorem rd_ext {a b:List Int} (hl:a.length=b.length) (h:∀v:Int,0≤v→v<a.length→rd a v=rd b v):a=b:=by
 refine List.ext_getElem hl fun i h1 h2=>?_
 have:=h i (by omega) (by omega)
 simpa[rd,List.getD_eq_getElem?_getD,h1,h2] using this
theorem Mx.eq {n:Int} {a b:List Int} {P:Int→Int→Prop} (ha:Mx n a P) (hb:Mx n b P) (n0:0≤n):a=b:=by
 refine rd_ext (by have:=ha.1;have:=hb.1;omega) fun v v0 v1=>?_
 have v1:v<n:=by have:=ha.1;omega
 obtain⟨⟨a0,a1⟩,a2⟩:=ha.2 v v0 v1
 obtain⟨⟨b0,b1⟩,b2⟩:=hb.2 v v0 v1
 exact tb_ext a0 a1 b0 b1 n0 fun i i0 i1=>Bool.eq_iff_iff.2 ((a2 i i0 i1).trans (b2 i i0 i1).symm)
theorem Mx.zero (n:Int) (n0:0≤n):Mx n (List.replicate n.toNat 0) (fun _ _=>False):=by
 refine⟨by simp;omega,fun v v0 v1=>?_⟩
 have e:rd (List.replicate n.toNat 0) v=0:=by
  have:v.toNat<n.toNat:=by omega
  simp[rd,List.getD_eq_getElem?_getD,this]
 rw[e]
 have p:(0:Int)<2 ^ n.toNat:=Int.pow_pos (by decide)
 refine⟨⟨by omega,p⟩,fun w w0 w1=>?_⟩
 simp[tb]
theorem Mx.rows {n:Int} {l:List Int} {P:Int→Int→Prop} (h:Mx n l P) (n1:1≤n) (n2:n≤62):rows n l:=⟨n1,n2,h.1,fun v v0 v1=>(h.2 v v0 v1).1⟩
theorem mx_of {n:Int} {l:List Int} (h:rows n l):Mx n l (fun v w=>tb (rd l v) w=true):=⟨h.2.2.1,fun v v0 v1=>⟨h.2.2.2 v v0 v1,fun _ _ _=>Iff.rfl⟩⟩
theorem rd_set {l:List Int} {i j:Int} (x:Int) (i0:0≤i) (i1:i<l.length) (j0:0≤j):rd (l.set i.toNat x) j=if j=i then x else rd l j:=by
 simp only[rd,List.getD_eq_getElem?_getD,List.getElem?_set]
 by_cases h:j=i
 ·subst h
  rw[if_pos rfl,if_pos rfl,if_pos (by omega)]
  rfl
 ·rw[if_neg h,if_neg (by omega)]
theorem or_one {n x j:Int} (n2:n≤62) (x0:0≤x) (x1:x<2 ^ n.toNat) (j0:0≤j) (j1:j<n):(0≤bits .or .i64 x (shl .i64 1 j)∧bits .or .i64 x (shl .i64 1 j)<2 ^ n.toNat)∧∀w,0≤w→(tb (bits .or .i64 x (shl .i64 1 j)) w=true↔tb x w=true∨w=j):=by
 have e:((2:Int) ^ n.toNat)=((2 ^ n.toNat:Nat):Int):=by simp
 have p:2 ^ n.toNat≤2 ^ 62:=Nat.pow_le_pow_right (by decide) (by omega)
 have q:2 ^ j.toNat<2 ^ n.toNat:=Nat.pow_lt_pow_right (by decide) (by omega)
 rw[e]at x1 ⊢
 obtain⟨y,rfl⟩:=Int.eq_ofNat_of_zero_le x0
 rw[shl_one j0 (by omega),show((2:Int) ^ j.toNat)=((2 ^ j.toNat:Nat):Int) by simp,or_nat y (2 ^ j.toNat) (by omega) (by omega)]
 refine⟨⟨by omega,?_⟩,fun w w0=>?_⟩
 ·have:=Nat.or_lt_two_pow (show y<2 ^ n.toNat by omega) q
  omega
 ·obtain⟨w,rfl⟩:=Int.eq_ofNat_of_zero_le w0
  rw[tb_nat,tb_nat,Nat.testBit_or,Nat.testBit_two_pow]
  simp only[Bool.or_eq_true,decide_eq_true_eq]
  refine or_congr Iff.rfl ?_
  omega
theorem Mx.or {n:Int} {l:List Int} {P:Int→Int→Prop} (h:Mx n l P) (n2:n≤62) {i j:Int} (i0:0≤i) (i1:i<n) (j0:0≤j) (j1:j<n):Mx n (l.set i.toNat (bits .or .i64 (rd l i) (shl .i64 1 j))) (fun v w=>P v w∨(v=i∧w=j)):=by
 refine⟨by simpa using h.1,fun v v0 v1=>?_⟩
 rw[rd_set _ i0 (by have:=h.1;omega) v0]
 obtain⟨⟨a0,a1⟩,a2⟩:=h.2 v v0 v1
 by_cases hv:v=i
 ·rw[if_pos hv]
  subst hv
  obtain⟨b,b2⟩:=or_one n2 a0 a1 j0 j1
  exact⟨b,fun w w0 w1=>(b2 w w0).trans (or_congr (a2 w w0 w1) (by simp))⟩
 ·rw[if_neg hv]
  exact⟨⟨a0,a1⟩,fun w w0 w1=>(a2 w w0 w1).trans (by simp[hv])⟩
def onesFrom (x:Nat):Nat→Nat→List Int
 |0,_=>[]
 |d+1,m=>if x.testBit m then(m:Int) :: onesFrom x d (m+1)else onesFrom x d (m+1)
theorem onesFrom_zero (d:Nat):∀m,onesFrom 0 d m=[]:=by
 induction d with
 |zero=>intro m;rfl
 |succ d ih=>intro m;simp[onesFrom,ih]
theorem onesFrom_congr (x y:Nat) (d:Nat):∀m,(∀i,m≤i→x.testBit i=y.testBit i)→onesFrom x d m=onesFrom y d m:=by
 induction d with
 |zero=>intro m _;rfl
 |succ d ih=>
  intro m h
  simp only[onesFrom]
  rw[h m (Nat.le_refl _),ih (m+1) fun i hi=>h i (by omega)]
theorem ctz_at {x m:Nat} (hx:x<2 ^ 64) (hb:x.testBit m=true) (hl:∀i,i<m→x.testBit i=false):Lib.ctz 64 x=m∧∃q,x=2 ^ m*(2*q+1):=by
 have h0:x≠0:=by rintro rfl;simp at hb
 obtain⟨q,e,_⟩:=Lib.ctzFrom_spec 64 x (by omega) hx
 have ec:Lib.ctz 64 x=Lib.ctzFrom 64 x:=by simp[Lib.ctz,h0]
 have ht:∀i,x.testBit i=(decide (i≥Lib.ctzFrom 64 x)&&(2*q+1).testBit (i-Lib.ctzFrom 64 x)):=fun i=>by rw[← Nat.testBit_two_pow_mul,← e]
 generalize Lib.ctzFrom 64 x=c at *
 have hc:c=m:=by
  rcases Nat.lt_trichotomy c m with h|h|h
  ·have a:=hl c h
   rw[ht c]at a
   simp at a
  ·exact h
  ·rw[ht m]at hb
   have:¬m≥c:=by omega
   simp[this]at hb
 subst hc
 exact⟨ec,q,e⟩
theorem and_pred {m q:Nat}:(2 ^ m*(2*q+1)) &&& (2 ^ m*(2*q+1)-1)=2 ^ m*(2*q):=by
 have p:=Nat.two_pow_pos m
 have e:2 ^ m*(2*q+1)-1=2 ^ m*(2*q)+(2 ^ m-1):=by rw[Nat.mul_add];omega
 rw[e]
 refine Nat.eq_of_testBit_eq fun i=>?_
 rw[Nat.testBit_and,Nat.testBit_two_pow_mul,Nat.testBit_two_pow_mul_add _ (by omega),Nat.testBit_two_pow_mul]
 by_cases h:i<m
 ·have:¬i≥m:=by omega
  simp[this]
 ·have:i≥m:=by omega
  simp only[this,decide_true,Bool.true_and,h,if_false]
  cases i-m with
  |zero=>simp
  |succ j=>simp[Nat.testBit_succ];rw[show(2*q+1)/2=q by omega];simp
theorem pred_bit {m q i:Nat} (h:m<i):(2 ^ m*(2*q)).testBit i=(2 ^ m*(2*q+1)).testBit i:=by
 rw[Nat.testBit_two_pow_mul,Nat.testBit_two_pow_mul]
 obtain⟨j,hj⟩:∃j,i-m=j+1:=⟨i-m-1,by omega⟩
 rw[hj,Nat.testBit_succ,Nat.testBit_succ,show(2*q+1)/2=2*q/2 by omega]
theorem pred_low {m q i:Nat} (h:i<m+1):(2 ^ m*(2*q)).testBit i=false:=by
 rw[Nat.testBit_two_pow_mul]
 by_cases e:i=m
 ·subst e
  simp
 ·have:¬i≥m:=by omega
  simp[this]
theorem i_list_l0 (d:Nat):∀(m x:Nat) (acc:List Int),d+m=62→x<2 ^ 62→(∀i,i<m→x.testBit i=false)→acc.length≤m→Ev (fun k=>Qcd.l0 k (x:Int) acc) (acc++onesFrom x d m):=by
 have done:∀d m (acc:List Int),Ev (fun k=>Qcd.l0 k ((0:Nat):Int) acc) (acc++onesFrom 0 d m):=by
  intro d m acc
  rw[onesFrom_zero,List.append_nil]
  refine ev_k ?_
  simp only[Qcd.l0]
  exact ev_pos rfl (Ev.now _)
 induction d with
 |zero=>
  intro m x acc hd hx hl ha
  have:x=0:=by
   refine Nat.eq_of_testBit_eq fun i=>?_
   rw[Nat.zero_testBit]
   by_cases hi:i<m
   ·exact hl i hi
   ·exact Nat.testBit_lt_two_pow (Nat.lt_of_lt_of_le hx (Nat.pow_le_pow_right (by decide) (by omega)))
  subst this
  exact done 0 m acc
 |succ d ih=>
  intro m x acc hd hx hl ha
  by_cases hb:x.testBit m=true
  ·obtain⟨hc,q,e⟩:=ctz_at (Nat.lt_trans hx (by decide)) hb hl
   have x0:x≠0:=by rintro rfl;simp at hb
   have hq:2 ^ m*(2*q)<2 ^ 62:=Nat.lt_of_le_of_lt (Nat.mul_le_mul_left _ (by omega)) (e ▸ hx)
   have:=ih (m+1) (2 ^ m*(2*q)) (acc++[(m:Int)]) (by omega) hq (fun i hi=>pred_low hi) (by simp;omega)
   have e2:acc++onesFrom x (d+1) m=acc++[(m:Int)]++onesFrom (2 ^ m*(2*q)) d (m+1):=by
    simp only[onesFrom,hb,if_true]
    rw[onesFrom_congr x (2 ^ m*(2*q)) d (m+1) fun i hi=>by rw[pred_bit (by omega),← e]]
    simp
   rw[e2]
   refine ev_k ?_
   simp only[Qcd.l0]
   refine ev_neg (by omega) ?_
   rw[wu64 (a:=(x:Int)) (by omega) (by omega),w64 (a:=(x:Int)-1) (by omega) (by omega),show(x:Int)-1=((x-1:Nat):Int) by omega,and_nat x (x-1) (by omega) (by omega)]
   have ex:x &&& (x-1)=2 ^ m*(2*q):=by rw[e];exact and_pred
   rw[ex]
   refine ev_bind0 (a:=(m:Int)) ?_ (ev_pos (by omega) this)
   unfold Qbv.f
   rw[if_pos (by omega),if_pos (by omega),Int.toNat_natCast,hc]
  ·have:=ih (m+1) x acc (by omega) hx (fun i hi=>if h:i=m then by rw[h];simpa using hb else hl i (by omega)) (by omega)
   have e:onesFrom x (d+1) m=onesFrom x d (m+1):=by simp[onesFrom,hb]
   rwa [e]
def ones (x:Int):List Int:=onesFrom x.toNat 62 0
theorem i_list {x:Int} (h0:0≤x) (h1:x<4611686018427387904):Ev (fun k=>Qcd.f k x) (ones x):=by
 obtain⟨y,rfl⟩:=Int.eq_ofNat_of_zero_le h0
 unfold Qcd.f ones
 rw[Int.toNat_natCast]
 have:=i_list_l0 62 0 y [] (by omega) (by omega) (fun i hi=>by omega) (by simp)
 simpa using this
theorem onesFrom_mem (x:Nat) (d:Nat):∀m (v:Int),v ∈ onesFrom x d m↔∃i:Nat,v=(i:Int)∧m≤i∧i<m+d∧x.testBit i=true:=by
 induction d with
 |zero=>intro m v;simp[onesFrom];intro i _ _;omega
 |succ d ih=>
  intro m v
  simp only[onesFrom]
  have s:(∃i:Nat,v=(i:Int)∧m≤i∧i<m+(d+1)∧x.testBit i=true)↔(v=(m:Int)∧x.testBit m=true)∨∃i:Nat,v=(i:Int)∧m+1≤i∧i<m+1+d∧x.testBit i=true:=by
   constructor
   ·rintro⟨i,rfl,h1,h2,h3⟩
    by_cases e:i=m
    ·subst e
     exact .inl ⟨rfl,h3⟩
    ·exact .inr ⟨i,rfl,by omega,by omega,h3⟩
   ·rintro(⟨rfl,h⟩|⟨i,rfl,h1,h2,h3⟩)
    ·exact⟨m,rfl,by omega,by omega,h⟩
    ·exact⟨i,rfl,by omega,by omega,h3⟩
  rw[s,← ih]
  by_cases h:x.testBit m=true
  ·rw[if_pos h]
   simp[h]
  ·rw[if_neg h]
   simp[h]
theorem ones_mem {n x:Int} (n0:0≤n) (n2:n≤62) (x0:0≤x) (x1:x<2 ^ n.toNat) (v:Int):v ∈ ones x↔0≤v∧v<n∧tb x v=true:=by
 unfold ones
 rw[onesFrom_mem]
 constructor
 ·rintro⟨i,rfl,h1,h2,h3⟩
  have ht:tb x i=true:=by rw[tb_toNat x0 (by omega)];simpa using h3
  refine⟨by omega,?_,ht⟩
  by_cases h:(i:Int)<n
  ·exact h
  ·rw[tb_high x0 x1 n0 (by omega)]at ht
   cases ht
 ·rintro⟨h1,h2,h3⟩
  refine⟨v.toNat,by omega,by omega,by omega,?_⟩
  rwa [tb_toNat x0 h1]at h3
theorem onesFrom_length (x:Nat) (d:Nat):∀m,(onesFrom x d m).length≤d:=by
 induction d with
 |zero=>intro m;simp[onesFrom]
 |succ d ih=>
  intro m
  simp only[onesFrom]
  have:=ih (m+1)
  split<;>simp<;>omega
theorem ones_length (x:Int):(ones x).length≤62:=onesFrom_length _ 62 0
theorem onesFrom_high (x:Nat) (d e:Nat):∀m,x<2 ^ (m+d)→onesFrom x (d+e) m=onesFrom x d m:=by
 induction d with
 |zero=>
  intro m h
  rw[Nat.zero_add]
  induction e generalizing m with
  |zero=>rfl
  |succ e ihe=>
   have hb:x.testBit m=false:=Nat.testBit_lt_two_pow h
   simp only[onesFrom,hb]
   rw[ihe (m+1) (Nat.lt_of_lt_of_le h (Nat.pow_le_pow_right (by decide) (by omega)))]
   simp[onesFrom]
 |succ d ih=>
  intro m h
  rw[show d+1+e=(d+e)+1 by omega]
  simp only[onesFrom]
  rw[ih (m+1) (by rwa [show m+1+d=m+(d+1) by omega])]
theorem ones_to {n x:Int} (n0:0≤n) (n2:n≤62) (x0:0≤x) (x1:x<2 ^ n.toNat):ones x=onesFrom x.toNat n.toNat 0:=by
 unfold ones
 have e:((2:Int) ^ n.toNat)=((2 ^ n.toNat:Nat):Int):=by simp
 rw[e]at x1
 have:=onesFrom_high x.toNat n.toNat (62-n.toNat) 0 (by rw[Nat.zero_add];omega)
 rwa [show n.toNat+(62-n.toNat)=62 by omega]at this
theorem onesFrom_add (x a b:Nat):∀m,onesFrom x (a+b) m=onesFrom x a m++onesFrom x b (m+a):=by
 induction a with
 |zero=>intro m;simp[onesFrom]
 |succ a ih=>
  intro m
  rw[show a+1+b=(a+b)+1 by omega]
  simp only[onesFrom]
  rw[ih (m+1),show m+1+a=m+(a+1) by omega]
  split<;>simp
theorem s_in (a b c:Int):Qaj.f a b c=some (decide (b≤a∧a≤c)):=by
 unfold Qaj.f
 split
 ·exact congrArg some (decide_eq_decide.2 (by omega))
 ·exact congrArg some (decide_eq_false (by omega)).symm
def pc:Nat→Nat→Nat
 |0,_=>0
 |n+1,x=>x % 2+pc n (x/2)
theorem pc_le (n:Nat):∀x,pc n x≤n:=by
 induction n with
 |zero=>intro x;simp[pc]
 |succ n ih=>intro x;simp only[pc];have:=ih (x/2);omega
theorem pc_add (a:Nat):∀b x,pc (a+b) x=pc a x+pc b (x/2 ^ a):=by
 induction a with
 |zero=>intro b x;simp[pc]
 |succ a ih=>
  intro b x
  rw[show a+1+b=(a+b)+1 by omega]
  simp only[pc]
  rw[ih,Nat.div_div_eq_div_mul,Nat.pow_succ',Nat.add_assoc]
theorem pc_zero (n:Nat):pc n 0=0:=by
 induction n with
 |zero=>rfl
 |succ n ih=>simp[pc,ih]
theorem pc_big {m n x:Nat} (h:x<2 ^ m) (hn:m≤n):pc n x=pc m x:=by
 obtain⟨b,rfl⟩:∃b,n=m+b:=⟨n-m,by omega⟩
 rw[pc_add,Nat.div_eq_of_lt h,pc_zero]
 rfl
def rep (B d:Nat):Nat→Nat
 |0=>0
 |n+1=>rep B d n*B+d
theorem and_rep (w d n x:Nat) (hd:d<2 ^ w):x &&& rep (2 ^ w) d (n+1)=(x/2 ^ w &&& rep (2 ^ w) d n)*2 ^ w+(x % 2 ^ w &&& d):=by
 have h1:(x &&& rep (2 ^ w) d (n+1))/2 ^ w=x/2 ^ w &&& rep (2 ^ w) d n:=by
  rw[Nat.and_div_two_pow]
  congr 1
  simp only[rep]
  rw[Nat.mul_comm,Nat.mul_add_div (Nat.two_pow_pos w),Nat.div_eq_of_lt hd]
  rfl
 have h2:(x &&& rep (2 ^ w) d (n+1)) % 2 ^ w=x % 2 ^ w &&& d:=by
  rw[Nat.and_mod_two_pow]
  congr 1
  simp only[rep]
  rw[Nat.mul_comm,Nat.mul_add_mod,Nat.mod_eq_of_lt hd]
 have:=Nat.div_add_mod (x &&& rep (2 ^ w) d (n+1)) (2 ^ w)
 rw[h1,h2,Nat.mul_comm]at this
 exact this.symm
def sA (n x:Nat):Nat:=(x/2 &&& rep 4 1 n)+(x &&& rep 4 1 n)
theorem sA_succ (n x:Nat):sA (n+1) x=sA n (x/4)*4+pc 2 x:=by
 have a:=and_rep 2 1 n (x/2) (by decide)
 have b:=and_rep 2 1 n x (by decide)
 simp only[show(2:Nat) ^ 2=4 from rfl,Nat.and_one_is_mod]at a b
 unfold sA
 rw[a,b,show x/2/4=x/8 by omega,show x/4/2=x/8 by omega]
 simp only[pc]
 omega
theorem sA_lt (n:Nat):∀x,sA n x<4 ^ n∨n=0∧sA n x=0:=by
 induction n with
 |zero=>intro x;right;exact⟨rfl,by simp[sA,rep]⟩
 |succ n ih=>
  intro x
  left
  have:=pc_le 2 x
  rw[sA_succ,Nat.pow_succ]
  rcases ih (x/4) with h|⟨rfl,h⟩
  ·omega
  ·rw[h];omega
theorem digs (q a b:Nat) (ha:a≤2) (hb:b≤2):(q*16+b*4+a)/4/16=q/4∧(q*16+b*4+a)/16=q∧(q*16+b*4+a)/4 % 16 % 4=b∧(q*16+b*4+a) % 16 % 4=a:=by
 have e:(q*16+b*4+a)/4=q*4+b:=by omega
 rw[e,Nat.mod_mod_of_dvd _ (by decide:4 ∣ 16),Nat.mod_mod_of_dvd _ (by decide:4 ∣ 16)]
 omega
theorem digs2 (q a b:Nat) (ha:a≤4) (hb:b≤4) (hq:q % 16≤4):((q*256+b*16+a)/16+(q*256+b*16+a))/256=q/16+q∧((q*256+b*16+a)/16+(q*256+b*16+a)) % 256 % 16=a+b:=by
 have e:(q*256+b*16+a)/16=q*16+b:=by omega
 rw[e,Nat.mod_mod_of_dvd _ (by decide:16 ∣ 256)]
 omega
def sB (n x:Nat):Nat:=(sA (2*n) x/4 &&& rep 16 3 n)+(sA (2*n) x &&& rep 16 3 n)
theorem sB_succ (n x:Nat):sB (n+1) x=sB n (x/16)*16+pc 4 x:=by
 have e:sA (2*(n+1)) x=sA (2*n) (x/16)*16+pc 2 (x/4)*4+pc 2 x:=by
  rw[show 2*(n+1)=(2*n+1)+1 by omega,sA_succ,sA_succ,show x/4/4=x/16 by omega]
  omega
 have p1:=pc_le 2 x
 have p2:=pc_le 2 (x/4)
 have p4:pc 4 x=pc 2 x+pc 2 (x/4):=pc_add 2 2 x
 have a:=and_rep 4 3 n (sA (2*(n+1)) x/4) (by decide)
 have b:=and_rep 4 3 n (sA (2*(n+1)) x) (by decide)
 have m3:∀y:Nat,y &&& 3=y % 4:=fun y=>by simpa using Nat.and_two_pow_sub_one_eq_mod y 2
 simp only[show(2:Nat) ^ 4=16 from rfl,m3]at a b
 unfold sB
 rw[a,b]
 obtain⟨e1,e2,e3,e4⟩:=digs (sA (2*n) (x/16)) _ _ p1 p2
 rw[e,e1,e2,e3,e4,p4]
 omega
theorem sB_zero (x:Nat):sB 0 x=0:=by simp[sB,rep]
theorem sB_lt (n:Nat):∀x,sB n x<16 ^ n∧sB n x % 16≤4:=by
 induction n with
 |zero=>intro x;rw[sB_zero];omega
 |succ n ih=>
  intro x
  have:=pc_le 4 x
  have:=(ih (x/16)).1
  rw[sB_succ,Nat.pow_succ]
  omega
def sC (n x:Nat):Nat:=sB (2*n) x/16+sB (2*n) x &&& rep 256 15 n
theorem sC_succ (n x:Nat):sC (n+1) x=sC n (x/256)*256+pc 8 x:=by
 have e:sB (2*(n+1)) x=sB (2*n) (x/256)*256+pc 4 (x/16)*16+pc 4 x:=by
  rw[show 2*(n+1)=(2*n+1)+1 by omega,sB_succ,sB_succ,show x/16/16=x/256 by omega]
  omega
 have p1:=pc_le 4 x
 have p2:=pc_le 4 (x/16)
 have p8:pc 8 x=pc 4 x+pc 4 (x/16):=pc_add 4 4 x
 have q:=(sB_lt (2*n) (x/256)).2
 have a:=and_rep 8 15 n (sB (2*(n+1)) x/16+sB (2*(n+1)) x) (by decide)
 have m15:∀y:Nat,y &&& 15=y % 16:=fun y=>by simpa using Nat.and_two_pow_sub_one_eq_mod y 4
 simp only[show(2:Nat) ^ 8=256 from rfl,m15]at a
 unfold sC
 rw[a]
 obtain⟨e1,e2⟩:=digs2 (sB (2*n) (x/256)) _ _ p1 p2 q
 rw[e,e1,e2,p8]
theorem sC_eight (x:Nat):sC 8 x=pc 8 x+256*pc 8 (x/256)+65536*pc 8 (x/65536)+16777216*pc 8 (x/16777216)+4294967296*pc 8 (x/4294967296)+1099511627776*pc 8 (x/1099511627776)+281474976710656*pc 8 (x/281474976710656)+72057594037927936*pc 8 (x/72057594037927936):=by
 have z:∀y,sC 0 y=0:=fun y=>by simp[sC,rep]
 have s:∀n y q,sC (n+1) (y/q)=sC n (y/(q*256))*256+pc 8 (y/q):=fun n y q=>by rw[sC_succ,Nat.div_div_eq_div_mul]
 rw[show(8:Nat)=7+1 from rfl,sC_succ 7 x,s 6 x,s 5 x,s 4 x,s 3 x,s 2 x,s 1 x,s 0 x,z]
 simp only[Nat.reduceMul,Nat.reduceAdd]
 omega
theorem pc_eight (x:Nat):pc 64 x=pc 8 x+pc 8 (x/256)+pc 8 (x/65536)+pc 8 (x/16777216)+pc 8 (x/4294967296)+pc 8 (x/1099511627776)+pc 8 (x/281474976710656)+pc 8 (x/72057594037927936):=by
 have h:∀n y,pc (8+n) y=pc 8 y+pc n (y/256):=fun n y=>pc_add 8 n y
 rw[show 64=8+(8+(8+(8+(8+(8+(8+8)))))) from rfl]
 simp only[h,Nat.div_div_eq_div_mul,Nat.reduceMul]
 omega
set_option maxHeartbeats 1000000 in
theorem swar (x:Nat):((sC 8 x+sC 8 x/256)+(sC 8 x+sC 8 x/256)/65536+((sC 8 x+sC 8 x/256)+(sC 8 x+sC 8 x/256)/65536)/4294967296) % 128=pc 64 x:=by
 rw[sC_eight,pc_eight]
 have a0:=pc_le 8 x
 have a1:=pc_le 8 (x/256)
 have a2:=pc_le 8 (x/65536)
 have a3:=pc_le 8 (x/16777216)
 have a4:=pc_le 8 (x/4294967296)
 have a5:=pc_le 8 (x/1099511627776)
 have a6:=pc_le 8 (x/281474976710656)
 have a7:=pc_le 8 (x/72057594037927936)
 generalize pc 8 x=d0 at *
 generalize pc 8 (x/256)=d1 at *
 generalize pc 8 (x/65536)=d2 at *
 generalize pc 8 (x/16777216)=d3 at *
 generalize pc 8 (x/4294967296)=d4 at *
 generalize pc 8 (x/1099511627776)=d5 at *
 generalize pc 8 (x/281474976710656)=d6 at *
 generalize pc 8 (x/72057594037927936)=d7 at *
 have e1:(d0+256*d1+65536*d2+16777216*d3+4294967296*d4+1099511627776*d5+281474976710656*d6+72057594037927936*d7)/256=d1+256*d2+65536*d3+16777216*d4+4294967296*d5+1099511627776*d6+281474976710656*d7:=by omega
 rw[e1]
 have e2:(d0+256*d1+65536*d2+16777216*d3+4294967296*d4+1099511627776*d5+281474976710656*d6+72057594037927936*d7+(d1+256*d2+65536*d3+16777216*d4+4294967296*d5+1099511627776*d6+281474976710656*d7))/65536=(d2+d3)+256*(d3+d4)+65536*(d4+d5)+16777216*(d5+d6)+4294967296*(d6+d7)+1099511627776*d7:=by omega
 rw[e2]
 have e3:(d0+256*d1+65536*d2+16777216*d3+4294967296*d4+1099511627776*d5+281474976710656*d6+72057594037927936*d7+(d1+256*d2+65536*d3+16777216*d4+4294967296*d5+1099511627776*d6+281474976710656*d7)+((d2+d3)+256*(d3+d4)+65536*(d4+d5)+16777216*(d5+d6)+4294967296*(d6+d7)+1099511627776*d7))/4294967296=(d4+d5+d6+d7)+256*(d5+d6+d7)+65536*(d6+d7)+16777216*d7:=by omega
 rw[e3]
 omega
theorem sC_bound (x:Nat):sC 8 x<720575940379279360:=by
 rw[sC_eight]
 have a0:=pc_le 8 x
 have a1:=pc_le 8 (x/256)
 have a2:=pc_le 8 (x/65536)
 have a3:=pc_le 8 (x/16777216)
 have a4:=pc_le 8 (x/4294967296)
 have a5:=pc_le 8 (x/1099511627776)
 have a6:=pc_le 8 (x/281474976710656)
 have a7:=pc_le 8 (x/72057594037927936)
 omega
theorem mA (x:Nat) (hx:x<2 ^ 64):IntKind.u64.wrap (bits .and .u64 ((x:Int)/2) 6148914691236517205+bits .and .u64 (x:Int) 6148914691236517205)=((sA 32 x:Nat):Int)∧sA 32 x<2 ^ 64:=by
 have hb:sA 32 x<2 ^ 64:=by rcases sA_lt 32 x with h|⟨h,_⟩<;>omega
 refine⟨?_,hb⟩
 have e:rep 4 1 32=6148914691236517205:=by decide
 rw[show((x:Int)/2)=((x/2:Nat):Int) by omega,show(6148914691236517205:Int)=((6148914691236517205:Nat):Int) from rfl,uand_nat _ _ (by omega) (by decide),uand_nat _ _ hx (by decide)]
 rw[← e]
 rw[← Int.natCast_add]
 exact wu64 (by omega) (by unfold sA at hb;omega)
theorem mB (x:Nat) (hx:x<2 ^ 64):IntKind.u64.wrap (bits .and .u64 ((sA 32 x:Nat)/4) 3689348814741910323+bits .and .u64 (sA 32 x:Nat) 3689348814741910323)=((sB 16 x:Nat):Int)∧sB 16 x<2 ^ 64:=by
 have ha:=(mA x hx).2
 have hb:sB 16 x<2 ^ 64:=(sB_lt 16 x).1
 refine⟨?_,hb⟩
 have e:rep 16 3 16=3689348814741910323:=by decide
 rw[show(((sA 32 x:Nat):Int)/4)=((sA 32 x/4:Nat):Int) by omega,show(3689348814741910323:Int)=((3689348814741910323:Nat):Int) from rfl,uand_nat _ _ (by omega) (by decide),uand_nat _ _ ha (by decide)]
 rw[← e]
 rw[← Int.natCast_add]
 exact wu64 (by omega) (by unfold sB at hb;simp only[show 2*16=32 from rfl]at hb;omega)
theorem sB_half (x:Nat):sB 16 x/16+sB 16 x<2 ^ 64:=by
 have h:=sB_succ 15 x
 have h1:=(sB_lt 15 (x/16)).1
 have h2:=(sB_lt 15 (x/16)).2
 have h3:=sB_succ 14 (x/16)
 have e:sB 16 x<6*16 ^ 15:=by
  have k:∀n y,sB n y*15+4≤4*16 ^ n:=by
   intro n
   induction n with
   |zero=>intro y;rw[sB_zero];omega
   |succ n ih=>
    intro y
    have:=ih (y/16)
    have:=pc_le 4 y
    have p:=Nat.one_le_two_pow (n:=4*n)
    rw[sB_succ,Nat.pow_succ]
    have:1≤16 ^ n:=Nat.one_le_pow _ _ (by decide)
    omega
  have:=k 16 x
  omega
 omega
theorem mC (x:Nat):bits .and .u64 (IntKind.u64.wrap (((sB 16 x:Nat):Int)/16+(sB 16 x:Nat))) 1085102592571150095=((sC 8 x:Nat):Int):=by
 have hb:=sB_half x
 have e:rep 256 15 8=1085102592571150095:=by decide
 rw[show(((sB 16 x:Nat):Int)/16+(sB 16 x:Nat))=((sB 16 x/16+sB 16 x:Nat):Int) by omega,wu64 (by omega) (by omega),show(1085102592571150095:Int)=((1085102592571150095:Nat):Int) from rfl,uand_nat _ _ hb (by decide)]
 rw[← e]
 rfl
set_option linter.unusedVariables false
theorem s_has (n:Int) (l:List Int) (v w:Int) (v0:0≤v) (v1:v<l.length) (w0:0≤w) (w1:w≤63):Qbn.f n l v w=some (tb (rd l v) w):=by
 unfold Qbn.f
 rw[if_pos v0,if_pos v1,wu64 w0 (by omega),if_pos w0,bit_is w0 w1]
section
variable {n:Int} {l:List Int} (n1:1≤n) (n2:n≤62) (hn:(l.length:Int)=n)
include n1 n2 hn
theorem s_is_l1 (d:Nat):∀v:Int,0≤v→v≤n→n-v=d→Says (fun k=>Qab.l1 k v n l) (∀a,v≤a→a<n→∀b,0≤b→b<a→tb (rd l a) b=tb (rd l b) a):=by
 induction d with
 |zero=>
  intro v v0 v1 hd
  refine says_k ?_
  simp only[Qab.l1]
  exact says_neg (by omega) (says_true fun a _ _=>by omega)
 |succ d ih=>
  intro v v0 v1 hd
  have hv:v<n:=by omega
  have inner:∀(e:Nat) (w:Int),0≤w→w≤v→v-w=e→Says (fun k=>Qab.l2 k v w n l) ((∀b,w≤b→b<v→tb (rd l v) b=tb (rd l b) v)∧∀a,v+1≤a→a<n→∀b,0≤b→b<a→tb (rd l a) b=tb (rd l b) a):=by
   intro e
   induction e with
   |zero=>
    intro w w0 w1 he
    refine says_k ?_
    simp only[Qab.l2]
    refine says_neg (by omega) ?_
    rw[w64 (a:=v+1) (by omega) (by omega)]
    exact says_iff ⟨fun h=>h.2,fun h=>⟨fun b _ _=>by omega,h⟩⟩ (ih (v+1) (by omega) (by omega) (by omega))
   |succ e ihe=>
    intro w w0 w1 he
    refine says_k ?_
    simp only[Qab.l2]
    refine says_pos (by omega) ?_
    rw[s_has n l v w v0 (by omega) w0 (by omega),s_has n l w v w0 (by omega) v0 (by omega)]
    simp only[Option.bind_some]
    by_cases h:tb (rd l v) w=tb (rd l w) v
    ·refine says_neg (by simp[h]) ?_
     rw[w64 (a:=w+1) (by omega) (by omega)]
     exact says_iff ⟨fun z=>⟨fun b b0 b1=>z.1 b (by omega) b1,z.2⟩,fun z=>⟨fun b b0 b1=>if hb:b=w then by rw[hb];exact h else z.1 b (by omega) b1,z.2⟩⟩ (ihe (w+1) (by omega) (by omega) (by omega))
    ·exact says_pos (by simp[h]) (says_false fun z=>h (z.1 w (by omega) (by omega)))
  refine says_k ?_
  simp only[Qab.l1]
  exact says_pos hv (says_iff ⟨fun z=>⟨fun b b0 b1=>z v (by omega) hv b b0 b1,fun a a0 a1=>z a (by omega) a1⟩,fun z a a0 a1 b b0 b1=>if ha:a=v then by subst ha;exact z.1 b b0 b1 else z.2 a (by omega) a1 b b0 b1⟩ (inner v.toNat 0 (by omega) (by omega) (by omega)))
theorem s_is_l0 (d:Nat):∀v:Int,0≤v→v≤n→n-v=d→Says (fun k=>Qab.l0 k v n l) ((∀a,v≤a→a<n→(0≤rd l a∧rd l a<2 ^ n.toNat)∧tb (rd l a) a=false)∧∀a,0≤a→a<n→∀b,0≤b→b<a→tb (rd l a) b=tb (rd l b) a):=by
 have hp:=two_pow_le (n:=n) (by omega) n2
 induction d with
 |zero=>
  intro v v0 v1 hd
  refine says_k ?_
  simp only[Qab.l0]
  exact says_neg (by omega) (says_iff ⟨fun h=>h.2,fun h=>⟨fun a _ _=>by omega,h⟩⟩ (s_is_l1 n1 n2 hn n.toNat 0 (by omega) (by omega) (by omega)))
 |succ d ih=>
  intro v v0 v1 hd
  refine says_k ?_
  simp only[Qab.l0]
  rw[wu64 (a:=n) (by omega) (by omega),shl_one (by omega) n2,w64 (a:=2 ^ n.toNat-1) (by omega) (by omega)]
  refine says_pos (by omega) (says_pos v0 (says_pos (by omega) (says_pos (by omega) ?_)))
  rw[s_in,s_has n l v v v0 (by omega) v0 (by omega)]
  simp only[Option.bind_some]
  by_cases h:0≤rd l v∧rd l v≤2 ^ n.toNat-1
  ·refine says_pos (decide_eq_true h) ?_
   by_cases ht:tb (rd l v) v=true
   ·exact says_pos ht (says_false fun z=>by have:=(z.1 v (by omega) (by omega)).2;rw[ht]at this;cases this)
   ·refine says_neg ht ?_
    rw[w64 (a:=v+1) (by omega) (by omega)]
    refine says_iff ⟨fun z=>⟨fun a a0 a1=>z.1 a (by omega) a1,z.2⟩,fun z=>⟨fun a a0 a1=>if ha:a=v then ?_ else z.1 a (by omega) a1,z.2⟩⟩ (ih (v+1) (by omega) (by omega) (by omega))
    subst ha
    exact⟨by omega,by simpa using ht⟩
  ·exact says_neg (by simpa using h) (says_false fun z=>h (by have:=(z.1 v (by omega) (by omega)).1;omega))
theorem i_is_l1 (v:Int) (v0:0≤v) (v1:v<n) (x:Int) (y3 y4:Int) (y5:List Int) (P:Prop) (hc:Says (fun k=>Qae.l0 k n y5 y3 (wrap64 (y4+1)) n l) P) (d:Nat):∀w:Int,0≤w→w≤n→n-w=d→
  Says (fun k=>Qae.l1 k n v x y5 y3 y4 n w n l) ((∀b,w≤b→b<n→tb x b=tb (rd l b) v)∧P):=by
 induction d with
 |zero=>
  intro w w0 w1 hd
  refine says_k ?_
  simp only[Qae.l1]
  exact says_neg (by omega) (says_iff ⟨fun h=>h.2,fun h=>⟨fun b _ _=>by omega,h⟩⟩ hc)
 |succ d ih=>
  intro w w0 w1 hd
  refine says_k ?_
  simp only[Qae.l1]
  refine says_pos (by omega) (says_pos w0 (says_pos (by omega) (says_pos v0 ?_)))
  by_cases h:tb x w=tb (rd l w) v
  ·refine says_pos ((bit_eq w0 (by omega) v0 (by omega)).2 h) ?_
   rw[w64 (a:=w+1) (by omega) (by omega)]
   exact says_iff ⟨fun z=>⟨fun b b0 b1=>z.1 b (by omega) b1,z.2⟩,fun z=>⟨fun b b0 b1=>if hb:b=w then by rw[hb];exact h else z.1 b (by omega) b1,z.2⟩⟩ (ih (w+1) (by omega) (by omega) (by omega))
  ·exact says_neg (fun z=>h ((bit_eq w0 (by omega) v0 (by omega)).1 z)) (says_false fun z=>h (z.1 w (by omega) (by omega)))
theorem i_is_l0 (d:Nat):∀v:Int,0≤v→v≤n→n-v=d→Says (fun k=>Qae.l0 k n l n v n l) (∀a,v≤a→a<n→((0≤rd l a∧rd l a<2 ^ n.toNat)∧tb (rd l a) a=false)∧∀b,0≤b→b<n→tb (rd l a) b=tb (rd l b) a):=by
 induction d with
 |zero=>
  intro v v0 v1 hd
  refine says_k ?_
  simp only[Qae.l0]
  exact says_neg (by omega) (says_true fun a _ _=>by omega)
 |succ d ih=>
  intro v v0 v1 hd
  have hv:v<n:=by omega
  have ih:=ih (v+1) (by omega) (by omega) (by omega)
  have bad:∀(P:Prop),¬P→Says (fun k=>Qae.j2 k n v (rd l v) l n v true n l) P:=fun P hP=>by
   refine says_k ?_
   simp only[Qae.j2]
   exact says_pos trivial (says_false hP)
  refine says_k ?_
  simp only[Qae.l0]
  refine says_pos hv (says_pos v0 (says_pos (by omega) ?_))
  by_cases h0:rd l v<0
  ·exact says_pos h0 (bad _ fun z=>by have:=(z v (by omega) hv).1.1;omega)
  ·refine says_neg h0 (says_pos (by omega) ?_)
   rw[shl_one (by omega) n2]
   by_cases h1:rd l v≥2 ^ n.toNat
   ·exact says_pos h1 (bad _ fun z=>by have:=(z v (by omega) hv).1.1;omega)
   ·refine says_neg h1 ?_
    rw[bit_is v0 (by omega)]
    cases ht:tb (rd l v) v with
    |true=>exact bad _ fun z=>by have:=(z v (by omega) hv).1.2;rw[ht]at this;cases this
    |false=>
     refine says_k ?_
     simp only[Qae.j2]
     refine says_neg (by decide) ?_
     refine says_iff ?_ (i_is_l1 n1 n2 hn v v0 hv (rd l v) n v l _ (by rw[w64 (a:=v+1) (by omega) (by omega)];exact ih) n.toNat 0 (by omega) (by omega) (by omega))
     exact⟨fun z=>⟨(z v (by omega) hv).2,fun a a0 a1=>z a (by omega) a1⟩,fun z a a0 a1=>if ha:a=v then by subst ha;exact⟨⟨by omega,ht⟩,z.1⟩else z.2 a (by omega) a1⟩
end
theorem s_is (n:Int) (l:List Int):Says (fun k=>Qab.f k n l) (isG n l):=by
 have bad:¬isG n l→Says (fun k=>Qab.j0 k true n l) (isG n l):=fun h=>by
  refine says_k ?_
  simp only[Qab.j0]
  exact says_pos trivial (says_false h)
 unfold Qab.f
 rw[s_in]
 simp only[Option.bind_some]
 by_cases h1:1≤n∧n≤62
 ·refine says_pos (decide_eq_true h1) ?_
  by_cases h2:(l.length:Int)=n
  ·refine says_k ?_
   simp only[Qab.j0]
   refine says_neg (by simp[h2]) ?_
   refine says_iff ?_ (s_is_l0 h1.1 h1.2 h2 n.toNat 0 (by omega) (by omega) (by omega))
   constructor
   ·exact fun⟨⟨_,_,_,r⟩,lo,sy⟩=>⟨fun a a0 a1=>⟨r a a0 a1,lo a a0 a1⟩,fun a a0 a1 b b0 b1=>sy a b a0 a1 b0 (by omega)⟩
   ·intro⟨z,sy⟩
    refine⟨⟨h1.1,h1.2,h2,fun a a0 a1=>(z a a0 a1).1⟩,fun a a0 a1=>(z a a0 a1).2,fun a b a0 a1 b0 b1=>?_⟩
    rcases Int.lt_trichotomy a b with h|h|h
    ·exact(sy b b0 b1 a a0 h).symm
    ·rw[h]
    ·exact sy a a0 a1 b b0 h
  ·rw[show((l.length:Int)!=n)=true by simpa using h2]
   exact bad fun z=>h2 z.1.2.2.1
 ·exact says_neg (by simpa using h1) (bad fun z=>h1 ⟨z.1.1,z.1.2.1⟩)
theorem i_is (n:Int) (l:List Int):Says (fun k=>Qae.f k n l) (isG n l):=by
 have bad:¬isG n l→Says (fun k=>Qae.j0 k n true n l) (isG n l):=fun h=>by
  refine says_k ?_
  simp only[Qae.j0]
  exact says_pos trivial (says_false h)
 unfold Qae.f
 by_cases h1:n<1
 ·exact says_pos h1 (bad fun z=>by have:=z.1.1;omega)
 ·refine says_neg h1 ?_
  by_cases h2:n>62
  ·exact says_pos h2 (bad fun z=>by have:=z.1.2.1;omega)
  ·refine says_neg h2 ?_
   by_cases h3:(l.length:Int)=n
   ·refine says_k ?_
    simp only[Qae.j0]
    refine says_neg (by simp[h3]) ?_
    have:=i_is_l0 (n:=n) (l:=l) (by omega) (by omega) h3 n.toNat 0 (by omega) (by omega) (by omega)
    rw[h3]
    refine says_iff ?_ this
    constructor
    ·exact fun⟨⟨_,_,_,r⟩,lo,sy⟩ a a0 a1=>⟨⟨r a a0 a1,lo a a0 a1⟩,fun b b0 b1=>sy a b a0 a1 b0 b1⟩
    ·exact fun z=>⟨⟨by omega,by omega,h3,fun a a0 a1=>(z a a0 a1).1.1⟩,fun a a0 a1=>(z a a0 a1).1.2,fun a b a0 a1 b0 b1=>(z a a0 a1).2 b b0 b1⟩
   ·rw[show((l.length:Int)!=n)=true by simpa using h3]
    exact bad fun z=>h3 z.1.2.2.1
def edgeRow (v:Int) (ws:List Int):List (List Int):=(ws.filter fun w=>decide (v<w)).map fun w=>[v,w]
def edgesTo (l:List Int):Nat→List (List Int)
 |0=>[]
 |m+1=>edgesTo l m++edgeRow (m:Int) (ones (rd l (m:Int)))
theorem edgeRow_app (v:Int) (a b:List Int):edgeRow v (a++b)=edgeRow v a++edgeRow v b:=by simp[edgeRow]
theorem edgeRow_length (v:Int) (a:List Int):(edgeRow v a).length≤a.length:=by
 unfold edgeRow
 rw[List.length_map]
 exact List.length_filter_le _ _
theorem edgesTo_length (l:List Int) (m:Nat):(edgesTo l m).length≤m*62:=by
 induction m with
 |zero=>simp[edgesTo]
 |succ m ih=>
  have a:=edgeRow_length (m:Int) (ones (rd l (m:Int)))
  have b:=ones_length (rd l (m:Int))
  simp only[edgesTo,List.length_append]
  omega
theorem edgesTo_mem {n:Int} {l:List Int} (h:rows n l) (m:Nat) (hm:(m:Int)≤n) (e:List Int):e ∈ edgesTo l m↔∃v w:Int,(0≤v∧v<m)∧(v<w∧w<n)∧tb (rd l v) w=true∧e=[v,w]:=by
 have n2:=h.2.1
 induction m with
 |zero=>
  simp only[edgesTo,List.not_mem_nil,false_iff]
  rintro⟨v,w,hv,_⟩
  omega
 |succ m ih=>
  have hr:=h.2.2.2 (m:Int) (by omega) (by omega)
  simp only[edgesTo,List.mem_append]
  refine Iff.trans (or_congr (ih (by omega)) Iff.rfl) ?_
  constructor
  ·rintro(⟨v,w,hv,hw⟩|he)
   ·exact⟨v,w,by omega,hw⟩
   ·obtain⟨w,hw,rfl⟩:=List.mem_map.1 he
    obtain⟨hw1,hw2⟩:=List.mem_filter.1 hw
    obtain⟨w0,w1,wt⟩:=(ones_mem (by omega) n2 hr.1 hr.2 w).1 hw1
    exact⟨m,w,by omega,⟨by simpa using hw2,w1⟩,wt,rfl⟩
  ·rintro⟨v,w,hv,hw,ht,rfl⟩
   by_cases z:v=m
   ·subst z
    refine .inr (List.mem_map.2 ⟨w,List.mem_filter.2 ⟨(ones_mem (by omega) n2 hr.1 hr.2 w).2 ⟨by omega,hw.2,ht⟩,by simpa using hw.1⟩,rfl⟩)
   ·exact .inl ⟨v,w,by omega,hw,ht,rfl⟩
theorem i_edges {n:Int} {l:List Int} (h:rows n l):Ev (fun k=>Qau.f k n l) (edgesTo l n.toNat):=by
 have n1:=h.1
 have n2:=h.2.1
 have hl:=h.2.2.1
 have loop:∀(d v:Nat),(v:Int)≤n→n-v=d→Ev (fun k=>Qau.l0 k (edgesTo l v) n v n l) (edgesTo l n.toNat):=by
  intro d
  induction d with
  |zero=>
   intro v v1 hd
   refine ev_k ?_
   simp only[Qau.l0]
   refine ev_neg (by omega) (ev_some ?_)
   rw[show v=n.toNat by omega]
  |succ d ih=>
   intro v v1 hd
   have hr:=h.2.2.2 (v:Int) (by omega) (by omega)
   have hp:=two_pow_le (n:=n) (by omega) n2
   have ol:=ones_length (rd l (v:Int))
   have el:=edgesTo_length l v
   have inner:∀(ws pre:List Int),pre++ws=ones (rd l (v:Int))→Ev (fun k=>Qau.l1 k (edgesTo l v++edgeRow v pre) v n v (ones (rd l (v:Int))) ((ones (rd l (v:Int))).length:Int) (pre.length:Int) n l) (edgesTo l n.toNat):=by
    intro ws
    induction ws with
    |nil=>
     intro pre hpre
     rw[List.append_nil]at hpre
     have:=ih (v+1) (by omega) (by omega)
     refine ev_k ?_
     simp only[Qau.l1]
     rw[w64 (a:=(v:Int)+1) (by omega) (by omega),hpre]
     exact ev_neg (by omega) this
    |cons w ws ihw=>
     intro pre hpre
     have hlt:pre.length<(ones (rd l (v:Int))).length:=by rw[← hpre];simp
     have hw:rd (ones (rd l (v:Int))) (pre.length:Int)=w:=by
      rw[← hpre]
      simp[rd,List.getD_eq_getElem?_getD]
     have hrl:=edgeRow_length (v:Int) pre
     have:=ihw (pre++[w]) (by rw[← hpre];simp)
     rw[edgeRow_app,List.length_append,List.length_singleton,Int.natCast_add]at this
     refine ev_k ?_
     simp only[Qau.l1,hw]
     rw[w64 (a:=(pre.length:Int)+1) (by omega) (by omega)]
     refine ev_pos (by omega) (ev_pos (by omega) (ev_pos (by omega) ?_))
     by_cases z:w>v
     ·rw[show edgeRow (v:Int) [w]=[[(v:Int),w]] by simp[edgeRow];omega,← List.append_assoc]at this
      exact ev_pos z (ev_pos (by simp only[List.length_append];omega) this)
     ·rw[show edgeRow (v:Int) [w]=[] by simp[edgeRow];omega,List.append_nil]at this
      exact ev_neg z this
   have:=inner (ones (rd l (v:Int))) [] rfl
   rw[show edgeRow (v:Int) []=[] from rfl,List.append_nil]at this
   refine ev_k ?_
   simp only[Qau.l0]
   exact ev_pos (by omega) (ev_pos (by omega) (ev_pos (by omega) (Ev.bind (i_list hr.1 (by omega)) this)))
 unfold Qau.f
 exact loop n.toNat 0 (by omega) (by omega)
theorem s_edges {n:Int} {l:List Int} (h:rows n l):Ev (fun k=>Qaz.f k n l) (edgesTo l n.toNat):=by
 have n1:=h.1
 have n2:=h.2.1
 have hl:=h.2.2.1
 have loop:∀(d v:Nat),(v:Int)≤n→n-v=d→Ev (fun k=>Qaz.l0 k (edgesTo l v) v n l) (edgesTo l n.toNat):=by
  intro d
  induction d with
  |zero=>
   intro v v1 hd
   refine ev_k ?_
   simp only[Qaz.l0]
   refine ev_neg (by omega) (ev_some ?_)
   rw[show v=n.toNat by omega]
  |succ d ih=>
   intro v v1 hd
   have hr:=h.2.2.2 (v:Int) (by omega) (by omega)
   have hp:=two_pow_le (n:=n) (by omega) n2
   have el:=edgesTo_length l v
   have hto:=ones_to (n:=n) (by omega) n2 hr.1 hr.2
   have row:edgeRow (v:Int) (ones (rd l (v:Int)))=edgeRow v (onesFrom (rd l (v:Int)).toNat (n.toNat-(v+1)) (v+1)):=by
    rw[hto,show n.toNat=(v+1)+(n.toNat-(v+1)) by omega,onesFrom_add,edgeRow_app,Nat.zero_add]
    have:edgeRow (v:Int) (onesFrom (rd l (v:Int)).toNat (v+1) 0)=[]:=by
     unfold edgeRow
     rw[List.map_eq_nil_iff,List.filter_eq_nil_iff]
     intro w hw
     obtain⟨i,rfl,_,h2,_⟩:=(onesFrom_mem _ _ _ _).1 hw
     simp
     omega
    rw[this,List.nil_append]
    congr 2
    omega
   have inner:∀(e w:Nat) (acc:List (List Int)),(w:Int)≤n→n.toNat-w=e→v<w→acc.length+e≤4000→acc++edgeRow v (onesFrom (rd l (v:Int)).toNat e w)=edgesTo l (v+1)→Ev (fun k=>Qaz.l1 k acc v w n l) (edgesTo l n.toNat):=by
    intro e
    induction e with
    |zero=>
     intro w acc w1 he hvw hal hacc
     have:=ih (v+1) (by omega) (by omega)
     rw[← hacc]at this
     simp only[onesFrom]at this
     rw[show edgeRow (v:Int) []=[] from rfl,List.append_nil]at this
     refine ev_k ?_
     simp only[Qaz.l1]
     rw[w64 (a:=(v:Int)+1) (by omega) (by omega)]
     exact ev_neg (by omega) this
    |succ e ihe=>
     intro w acc w1 he hvw hal hacc
     have hh:=s_has n l (v:Int) (w:Int) (by omega) (by omega) (by omega) (by omega)
     have htb:tb (rd l (v:Int)) (w:Int)=(rd l (v:Int)).toNat.testBit w:=by rw[tb_toNat hr.1 (by omega),Int.toNat_natCast]
     refine ev_k ?_
     simp only[Qaz.l1,hh,Option.bind_some]
     rw[w64 (a:=(w:Int)+1) (by omega) (by omega)]
     refine ev_pos (by omega) ?_
     by_cases z:tb (rd l (v:Int)) (w:Int)=true
     ·have:=ihe (w+1) (acc++[[(v:Int),(w:Int)]]) (by omega) (by omega) (by omega) (by simp;omega) (by
       rw[← hacc]
       simp only[onesFrom]
       rw[if_pos (by rw[← htb];exact z)]
       rw[show(w:Int) :: onesFrom (rd l (v:Int)).toNat e (w+1)=[(w:Int)]++onesFrom (rd l (v:Int)).toNat e (w+1) from rfl,edgeRow_app,show edgeRow (v:Int) [(w:Int)]=[[(v:Int),(w:Int)]] by simp[edgeRow];omega,List.append_assoc])
      exact ev_pos z (ev_pos (by omega) this)
     ·have:=ihe (w+1) acc (by omega) (by omega) (by omega) (by omega) (by
       rw[← hacc]
       simp only[onesFrom]
       rw[if_neg (by rw[← htb];exact z)])
      exact ev_neg z this
   have:=inner (n.toNat-(v+1)) (v+1) (edgesTo l v) (by omega) rfl (by omega) (by omega) (by simp only[edgesTo];rw[row])
   refine ev_k ?_
   simp only[Qaz.l0]
   rw[w64 (a:=(v:Int)+1) (by omega) (by omega)]
   exact ev_pos (by omega) this
 unfold Qaz.f
 exact loop n.toNat 0 (by omega) (by omega)
def joined (m:List Int) (v u:Int):List Int:=
 let y:=m.set v.toNat (bits .or .i64 (rd m v) (shl .i64 1 u))
 y.set u.toNat (bits .or .i64 (rd y u) (shl .i64 1 v))
theorem Mx.joined {n:Int} {m:List Int} {P:Int→Int→Prop} (h:Mx n m P) (n2:n≤62) {v u:Int} (v0:0≤v) (v1:v<n) (u0:0≤u) (u1:u<n):Mx n (joined m v u) (fun a b=>P a b∨(a=v∧b=u)∨(a=u∧b=v)):=
 ((h.or n2 v0 v1 u0 u1).or n2 u0 u1 v0 v1).imp fun a b _ _ _ _=>⟨fun z=>by rcases z with(z|z)|z;exact .inl z;exact .inr (.inl z);exact .inr (.inr z),fun z=>by rcases z with z|z|z;exact .inl (.inl z);exact .inl (.inr z);exact .inr z⟩
theorem s_put (n:Int) (m:List Int) (v u:Int) (v0:0≤v) (v1:v<m.length) (u0:0≤u) (u1:u<m.length) (hm:m.length≤62):Qaf.f n m v u=some (joined m v u):=by
 unfold Qaf.f joined
 rw[wu64 v0 (by omega),wu64 u0 (by omega),if_pos v0,if_pos v1,if_pos u0]
 simp only[Option.bind_some]
 rw[if_pos u0,if_pos u1,if_pos v0]
theorem i_put (n:Int) (m:List Int) (v u:Int) (v0:0≤v) (v1:v<m.length) (u0:0≤u) (u1:u<m.length) (e:v≠u):Qbb.f n m v u=some (joined m v u):=by
 unfold Qbb.f joined
 rw[if_neg e,if_pos v0,if_pos v1,if_pos u0]
 simp only[Option.bind_some]
 rw[if_pos u1]
theorem s_empty (n:Int) (n0:0≤n) (n2:n≤62):Qak.f n=some (n,List.replicate n.toNat 0):=by
 unfold Qak.f
 rw[if_pos n0,if_pos (by omega)]
theorem i_empty (n:Int) (n0:0≤n) (n2:n≤62):Qcg.f n=some (n,List.replicate n.toNat 0):=by
 unfold Qcg.f
 rw[if_pos n0,if_pos (by omega)]
theorem okE_of {n:Int} {E:List (List Int)}:∀{b4:Int},(∀e ∈ E,∃a b,e=[a,b]∧0≤a∧a<b∧b<n)→(∀e ∈ E,b4<ky n e)→E.Pairwise (fun p q=>ky n p<ky n q)→okE n b4 E:=by
 induction E with
 |nil=>exact fun _ _ _=>trivial
 |cons e E ih=>
  intro b4 h1 h2 h3
  obtain⟨a,b,rfl,hab⟩:=h1 e (List.mem_cons_self ..)
  obtain⟨p1,p2⟩:=List.pairwise_cons.1 h3
  exact⟨a,b,rfl,hab,h2 _ (List.mem_cons_self ..),ih (fun x hx=>h1 x (List.mem_cons_of_mem _ hx)) (fun x hx=>p1 x hx) p2⟩
theorem onesFrom_up (x:Nat) (d:Nat):∀m,(onesFrom x d m).Pairwise (fun a b=>a<b):=by
 induction d with
 |zero=>intro m;simp[onesFrom]
 |succ d ih=>
  intro m
  simp only[onesFrom]
  split
  ·refine List.pairwise_cons.2 ⟨fun v hv=>?_,ih (m+1)⟩
   obtain⟨i,rfl,h1,_⟩:=(onesFrom_mem _ _ _ _).1 hv
   omega
  ·exact ih (m+1)
theorem edges_up {n:Int} {l:List Int} (h:rows n l) (m:Nat) (hm:(m:Int)≤n):(edgesTo l m).Pairwise (fun p q=>ky n p<ky n q):=by
 have n2:=h.2.1
 induction m with
 |zero=>simp[edgesTo]
 |succ m ih=>
  simp only[edgesTo]
  refine List.pairwise_append.2 ⟨ih (by omega),?_,fun e he f hf=>?_⟩
  ·unfold edgeRow
   rw[List.pairwise_map]
   refine((onesFrom_up _ 62 0).filter _).imp fun{a b} hab=>?_
   show(m:Int)*n+a<(m:Int)*n+b
   omega
  ·obtain⟨v,w,hv,hw,_,rfl⟩:=(edgesTo_mem h m (by omega) e).1 he
   obtain⟨u,hu,rfl⟩:=List.mem_map.1 hf
   obtain⟨hu1,hu2⟩:=List.mem_filter.1 hu
   have hu2:(m:Int)<u:=by simpa using hu2
   show v*n+w<(m:Int)*n+u
   have y:(v+1)*n≤(m:Int)*n:=Int.mul_le_mul_of_nonneg_right (by omega) (by omega)
   rw[Int.add_mul]at y
   omega
theorem edges_ok {n:Int} {l:List Int} (h:rows n l):okE n (-1) (edgesTo l n.toNat):=by
 have n1:=h.1
 refine okE_of (fun e he=>?_) (fun e he=>?_) (edges_up h _ (by omega))
 ·obtain⟨v,w,hv,hw,_,rfl⟩:=(edgesTo_mem h _ (by omega) e).1 he
  exact⟨v,w,rfl,by omega⟩
 ·obtain⟨v,w,hv,hw,_,rfl⟩:=(edgesTo_mem h _ (by omega) e).1 he
  show -1<v*n+w
  have:=key_up hv.1 hw.1 hw.2
  omega
theorem joined_len (m:List Int) (v u:Int):(joined m v u).length=m.length:=by simp[joined]
def puts (m:List Int):List (List Int)→List Int
 |[]=>m
 |e :: E=>puts (joined m (rd e 0) (rd e 1)) E
theorem Mx.puts {n:Int} (n2:n≤62) {E:List (List Int)}:∀{m:List Int} {P:Int→Int→Prop},Mx n m P→(∀e ∈ E,∃a b,e=[a,b]∧(0≤a∧a<n)∧0≤b∧b<n)→Mx n (Q.puts m E) (fun v w=>P v w∨[v,w] ∈ E∨[w,v] ∈ E):=by
 induction E with
 |nil=>
  intro m P h _
  exact h.imp fun v w _ _ _ _=>by simp
 |cons e E ih=>
  intro m P h hE
  obtain⟨a,b,rfl,ha,hb⟩:=hE e (List.mem_cons_self ..)
  refine(ih (h.joined n2 ha.1 ha.2 hb.1 hb.2) fun x hx=>hE x (List.mem_cons_of_mem _ hx)).imp fun v w _ _ _ _=>?_
  simp only[List.mem_cons,List.cons.injEq,and_true]
  constructor
  ·rintro((z|z|z)|z|z)
   ·exact .inl z
   ·exact .inr (.inl (.inl z))
   ·exact .inr (.inr (.inl ⟨z.2,z.1⟩))
   ·exact .inr (.inl (.inr z))
   ·exact .inr (.inr (.inr z))
  ·rintro(z|(z|z)|(z|z))
   ·exact .inl (.inl z)
   ·exact .inl (.inr (.inl z))
   ·exact .inr (.inl z)
   ·exact .inl (.inr (.inr ⟨z.2,z.1⟩))
   ·exact .inr (.inr z)
def graphy (n:Int) (m:List Int):Prop:=Mx n m (fun v w=>tb (rd m v) w=true)∧(∀v,0≤v→v<n→tb (rd m v) v=false)∧∀v w,0≤v→v<n→0≤w→w<n→tb (rd m v) w=tb (rd m w) v
theorem graphy.isG {n:Int} {m:List Int} (h:graphy n m) (n1:1≤n) (n2:n≤62):Q.isG n m:=⟨h.1.rows n1 n2,h.2.1,h.2.2⟩
theorem graphy_zero (n:Int) (n0:0≤n):graphy n (List.replicate n.toNat 0):=by
 have z:=Mx.zero n n0
 have f:∀v w,0≤v→v<n→0≤w→w<n→tb (rd (List.replicate n.toNat 0) v) w=false:=fun v w v0 v1 w0 w1=>by
  have:=(z.2 v v0 v1).2 w w0 w1
  simpa using this
 refine⟨z.imp fun v w v0 v1 w0 w1=>?_,fun v v0 v1=>f v v v0 v1 v0 v1,fun v w v0 v1 w0 w1=>by rw[f v w v0 v1 w0 w1,f w v w0 w1 v0 v1]⟩
 rw[f v w v0 v1 w0 w1]
 simp
theorem graphy.joined {n:Int} {m:List Int} (h:graphy n m) (n2:n≤62) {a b:Int} (a0:0≤a) (a1:a<n) (b0:0≤b) (b1:b<n) (ab:a≠b):graphy n (Q.joined m a b):=by
 have j:=h.1.joined n2 a0 a1 b0 b1
 refine⟨⟨j.1,fun v v0 v1=>⟨(j.2 v v0 v1).1,fun _ _ _=>Iff.rfl⟩⟩,fun v v0 v1=>?_,fun v w v0 v1 w0 w1=>Bool.eq_iff_iff.2 ?_⟩
 ·refine Bool.eq_false_iff.2 fun q=>?_
  rcases((j.2 v v0 v1).2 v v0 v1).1 q with z|z|z
  ·rw[h.2.1 v v0 v1]at z
   cases z
  ·omega
  ·omega
 ·rw[(j.2 v v0 v1).2 w w0 w1,(j.2 w w0 w1).2 v v0 v1]
  show(tb (rd m v) w=true∨v=a∧w=b∨v=b∧w=a)↔(tb (rd m w) v=true∨w=a∧v=b∨w=b∧v=a)
  rw[h.2.2 v w v0 v1 w0 w1]
  refine or_congr Iff.rfl ?_
  omega
theorem graphy.puts {n:Int} (n2:n≤62) {E:List (List Int)}:∀{m:List Int},graphy n m→(∀e ∈ E,∃a b,e=[a,b]∧0≤a∧a<b∧b<n)→graphy n (Q.puts m E):=by
 induction E with
 |nil=>exact fun h _=>h
 |cons e E ih=>
  intro m h hE
  obtain⟨a,b,rfl,hab⟩:=hE e (List.mem_cons_self ..)
  exact ih (h.joined n2 (a:=a) (b:=b) (by omega) (by omega) (by omega) (by omega) (by omega)) fun x hx=>hE x (List.mem_cons_of_mem _ hx)
theorem edges_puts {n:Int} (n1:1≤n) (n2:n≤62) {E:List (List Int)} {b4:Int} (h:okE n b4 E):edgesTo (puts (List.replicate n.toNat 0) E) n.toNat=E:=by
 have hm:=okE_mem h
 have g:graphy n (puts (List.replicate n.toNat 0) E):=(graphy_zero n (by omega)).puts n2 hm
 have hG:=g.isG n1 n2
 have mx:=(Mx.zero n (by omega)).puts n2 (E:=E) fun e he=>by
  obtain⟨a,b,q,hab⟩:=hm e he
  exact⟨a,b,q,by omega,by omega⟩
 refine okE_ext (edges_ok hG.1) h fun e=>(edgesTo_mem hG.1 _ (by omega) e).trans ⟨?_,fun he=>?_⟩
 ·rintro⟨v,w,hv,hw,ht,rfl⟩
  rcases((mx.2 v hv.1 (by omega)).2 w (by omega) (by omega)).1 ht with z|z|z
  ·exact z.elim
  ·exact z
  ·obtain⟨a,b,q,hab⟩:=hm _ z
   simp only[List.cons.injEq,and_true]at q
   omega
 ·obtain⟨a,b,rfl,hab⟩:=hm e he
  exact⟨a,b,by omega,by omega,((mx.2 a (by omega) (by omega)).2 b (by omega) (by omega)).2 (.inr (.inl he)),rfl⟩
theorem puts_edges {n:Int} {l:List Int} (h:isG n l):puts (List.replicate n.toNat 0) (edgesTo l n.toNat)=l:=by
 have n1:=h.1.1
 have n2:=h.1.2.1
 refine Mx.eq (((Mx.zero n (by omega)).puts n2 (E:=edgesTo l n.toNat) fun e he=>?_).imp fun v w v0 v1 w0 w1=>?_) (mx_of h.1) (by omega)
 ·obtain⟨a,b,q,hab⟩:=okE_mem (edges_ok h.1) e he
  exact⟨a,b,q,by omega,by omega⟩
 ·rw[edgesTo_mem h.1 _ (by omega),edgesTo_mem h.1 _ (by omega)]
  constructor
  ·rintro(z|⟨a,b,ha,hb,ht,q⟩|⟨a,b,ha,hb,ht,q⟩)
   ·exact z.elim
   ·simp only[List.cons.injEq,and_true]at q
    rw[q.1,q.2]
    exact ht
   ·simp only[List.cons.injEq,and_true]at q
    rw[h.2.2 v w v0 v1 w0 w1,q.1,q.2]
    exact ht
  ·intro ht
   by_cases z:v<w
   ·exact .inr (.inl ⟨v,w,by omega,by omega,ht,rfl⟩)
   ·by_cases y:v=w
    ·subst y
     rw[h.2.1 v v0 v1]at ht
     cases ht
    ·exact .inr (.inr ⟨w,v,by omega,by omega,by rw[h.2.2 w v w0 w1 v0 v1];exact ht,rfl⟩)
def sm (f:Int→Int):Nat→Int
 |0=>0
 |m+1=>sm f m+f m
theorem sm_congr {f g:Int→Int} (m:Nat) (h:∀i:Int,0≤i→i<m→f i=g i):sm f m=sm g m:=by
 induction m with
 |zero=>rfl
 |succ m ih=>
  simp only[sm]
  rw[ih fun i i0 i1=>h i i0 (by omega),h m (by omega) (by omega)]
theorem sm_zero (m:Nat):sm (fun _=>0) m=0:=by
 induction m with
 |zero=>rfl
 |succ m ih=>simp only[sm,ih];rfl
theorem sm_add (f g:Int→Int) (m:Nat):sm (fun i=>f i+g i) m=sm f m+sm g m:=by
 induction m with
 |zero=>rfl
 |succ m ih=>simp only[sm,ih];omega
theorem sm_swap (f:Int→Int→Int) (m k:Nat):sm (fun i=>sm (fun j=>f i j) k) m=sm (fun j=>sm (fun i=>f i j) m) k:=by
 induction m with
 |zero=>simp only[sm];exact(sm_zero k).symm
 |succ m ih=>simp only[sm];rw[ih,← sm_add]
theorem sm_one (v:Int) (c:Int→Int) (m:Nat) (v0:0≤v) (v1:v<m):sm (fun i=>if i=v then c i else 0) m=c v:=by
 induction m with
 |zero=>omega
 |succ m ih=>
  simp only[sm]
  by_cases z:v<m
  ·rw[ih z,if_neg (by omega)]
   omega
  ·have e:v=m:=by omega
   rw[if_pos e.symm,sm_congr m (g:=fun _=>0) fun i i0 i1=>if_neg (by omega),sm_zero,e]
   omega
theorem sm_mul (p:Int→Prop) [DecidablePred p] (K:Int) (m:Nat):sm (fun i=>if p i then K else 0) m=sm (fun i=>if p i then 1 else 0) m*K:=by
 induction m with
 |zero=>simp[sm]
 |succ m ih=>
  simp only[sm,ih]
  split
  ·rw[Int.add_mul,Int.one_mul]
  ·simp
theorem sm_const (m:Nat):sm (fun _=>1) m=m:=by
 induction m with
 |zero=>rfl
 |succ m ih=>simp only[sm,ih];omega
theorem s_bits_l0 (n:Nat):∀(x:Nat) (acc:Int),x<2 ^ n→n≤63→0≤acc→acc+n<4611686018427387904→Ev (fun k=>Qcb.l0 k (x:Int) acc) (acc+pc n x):=by
 induction n with
 |zero=>
  intro x acc hx _ _ _
  refine ev_k ?_
  simp only[Qcb.l0]
  exact ev_neg (by omega) (ev_some (by simp[pc]))
 |succ n ih=>
  intro x acc hx hn h0 h1
  refine ev_k ?_
  simp only[Qcb.l0]
  have e1:Int.tdiv (x:Int) 2=((x/2:Nat):Int):=by rw[Int.tdiv_eq_ediv_of_nonneg (by omega)];omega
  have e2:Int.tmod (x:Int) 2=((x % 2:Nat):Int):=by rw[Int.tmod_eq_emod_of_nonneg (by omega)];omega
  have p:(2:Nat) ^ n≤2 ^ 62:=Nat.pow_le_pow_right (by decide) (by omega)
  rw[Nat.pow_succ]at hx
  by_cases h:(x:Int)>0
  ·refine ev_pos h ?_
   rw[e1,e2,w64 (a:=((x/2:Nat):Int)) (by omega) (by omega),w64 (a:=acc+((x % 2:Nat):Int)) (by omega) (by omega)]
   have:=ih (x/2) (acc+((x % 2:Nat):Int)) (by omega) (by omega) (by omega) (by omega)
   simp only[pc]
   rwa [show acc+(((x % 2+pc n (x/2):Nat)):Int)=acc+((x % 2:Nat):Int)+(pc n (x/2):Nat) by omega]
  ·refine ev_neg h (ev_some ?_)
   obtain rfl:x=0:=by omega
   rw[pc_zero]
   simp
theorem s_bits (x:Nat) (hx:x<2 ^ 62):Ev (fun k=>Qcb.f k (x:Int)) (pc 64 x:Nat):=by
 unfold Qcb.f
 have:=s_bits_l0 62 x 0 hx (by omega) (by omega) (by omega)
 rw[pc_big hx (by omega:62≤64)]
 rwa [Int.zero_add]at this
theorem i_size (x:Nat) (hx:x<2 ^ 62):Qdo.f (x:Int)=some ((pc 64 x:Nat):Int):=by
 unfold Qdo.f Qcr.f
 rw[wu64 (a:=(x:Int)) (by omega) (by omega)]
 rw[(mA x (by omega)).1,(mB x (by omega)).1,mC]
 have b:=sC_bound x
 have s:=swar x
 have p:=pc_le 64 x
 have e1:((sC 8 x:Nat):Int)+((sC 8 x:Nat):Int)/256=((sC 8 x+sC 8 x/256:Nat):Int):=by omega
 rw[e1,wu64 (a:=((sC 8 x+sC 8 x/256:Nat):Int)) (by omega) (by omega)]
 generalize sC 8 x+sC 8 x/256=y at *
 have e2:((y:Nat):Int)+((y:Nat):Int)/65536=((y+y/65536:Nat):Int):=by omega
 rw[e2,wu64 (a:=((y+y/65536:Nat):Int)) (by omega) (by omega)]
 generalize y+y/65536=z at *
 have e3:((z:Nat):Int)+((z:Nat):Int)/4294967296=((z+z/4294967296:Nat):Int):=by omega
 rw[e3,wu64 (a:=((z+z/4294967296:Nat):Int)) (by omega) (by omega),w64 (by omega) (by omega)]
 generalize z+z/4294967296=t at *
 have e4:bits .and .i64 ((t:Nat):Int) 127=((t % 128:Nat):Int):=by
  have:=and_nat t 127 (by omega) (by decide)
  rw[show((127:Nat):Int)=127 from rfl]at this
  rw[this]
  have:=Nat.and_two_pow_sub_one_eq_mod t 7
  simpa using congrArg (fun n:Nat=>(n:Int)) this
 rw[e4,s]
 rfl
def deg (l:List Int) (v:Int):Int:=(pc 64 (rd l v).toNat:Nat)
theorem deg_range (l:List Int) (v:Int):0≤deg l v∧deg l v≤64:=by
 have:=pc_le 64 (rd l v).toNat
 unfold deg
 omega
theorem s_degree {n:Int} {l:List Int} (h:rows n l) {v:Int} (v0:0≤v) (v1:v<n):Ev (fun k=>Qbx.f k n l v) (deg l v):=by
 obtain⟨x,e,_,hx⟩:=h.nat v0 v1
 have hn:=h.2.2.1
 unfold Qbx.f deg
 rw[e,Int.toNat_natCast]
 exact ev_pos v0 (ev_pos (by omega) (Ev.bind (s_bits x hx) (Ev.now _)))
theorem i_degree {n:Int} {l:List Int} (h:rows n l) {v:Int} (v0:0≤v) (v1:v<n):Qcy.f n l v=some (deg l v):=by
 obtain⟨x,e,_,hx⟩:=h.nat v0 v1
 have hn:=h.2.2.1
 unfold Qcy.f deg
 rw[e,Int.toNat_natCast,if_pos v0,if_pos (by omega),i_size x hx]
 rfl
def degs (l:List Int) (m:Nat):List Int:=(List.range m).map fun(j:Nat)=>deg l (j:Int)
theorem degs_length (l:List Int) (m:Nat):(degs l m).length=m:=by simp[degs]
theorem degs_succ (l:List Int) (m:Nat):degs l (m+1)=degs l m++[deg l m]:=by simp[degs,List.range_succ]
theorem degs_at (l:List Int) (m:Nat) (i:Int) (h0:0≤i) (h1:i<m):rd (degs l m) i=deg l i:=by
 have:i.toNat<m:=by omega
 simp[rd,degs,List.getD_eq_getElem?_getD,this]
 congr 1
 omega
theorem i_degrees {n:Int} {l:List Int} (h:rows n l):Ev (fun k=>Qbc.f k n l) (degs l n.toNat):=by
 have n2:=h.2.1
 have loop:∀(d:Nat) (i:Nat),(i:Int)≤n→n-i=d→Ev (fun k=>Qbc.l0 k (degs l i) n i n l) (degs l n.toNat):=by
  intro d
  induction d with
  |zero=>
   intro i h1 hd
   refine ev_k ?_
   simp only[Qbc.l0]
   refine ev_neg (by omega) (ev_some ?_)
   rw[show i=n.toNat by omega]
  |succ d ih=>
   intro i h1 hd
   refine ev_k ?_
   simp only[Qbc.l0,i_degree h (show(0:Int)≤i by omega) (show(i:Int)<n by omega),Option.bind_some]
   refine ev_pos (by omega) (ev_pos (by rw[degs_length];omega) ?_)
   rw[w64 (by omega) (by omega),← degs_succ]
   exact ih (i+1) (by omega) (by omega)
 unfold Qbc.f
 have:=loop n.toNat 0 (by have:=h.1;omega) (by have:=h.1;omega)
 exact this
theorem len_filter (x:Nat) (p:Int→Bool) (d:Nat):(((onesFrom x d 0).filter p).length:Int)=sm (fun w=>if tb (x:Int) w=true∧p w=true then 1 else 0) d:=by
 induction d with
 |zero=>rfl
 |succ d ih=>
  have s:sm (fun w=>if tb (x:Int) w=true∧p w=true then 1 else 0) (d+1)=sm (fun w=>if tb (x:Int) w=true∧p w=true then 1 else 0) d+(if tb (x:Int) (d:Int)=true∧p (d:Int)=true then 1 else 0):=rfl
  rw[s,← ih,onesFrom_add,Nat.zero_add,List.filter_append,List.length_append,Int.natCast_add,tb_nat]
  congr 1
  simp only[onesFrom]
  by_cases a:x.testBit d=true<;>by_cases b:p (d:Int)=true<;>simp[a,b]
theorem pc_sm (x:Nat) (d:Nat):((pc d x:Nat):Int)=sm (fun w=>if tb (x:Int) w=true then 1 else 0) d:=by
 induction d with
 |zero=>rfl
 |succ d ih=>
  have s:sm (fun w=>if tb (x:Int) w=true then 1 else 0) (d+1)=sm (fun w=>if tb (x:Int) w=true then 1 else 0) d+(if tb (x:Int) (d:Int)=true then 1 else 0):=rfl
  rw[s,← ih,pc_add,Int.natCast_add,tb_nat]
  congr 1
  have e:pc 1 (x/2 ^ d)=x/2 ^ d % 2:=by simp[pc]
  rw[e,Nat.testBit_eq_decide_div_mod_eq]
  by_cases a:x/2 ^ d % 2=1
  ·simp[a]
  ·have:x/2 ^ d % 2=0:=by omega
   simp[this]
def adj (l:List Int) (v w:Int):Int:=if tb (rd l v) w=true then 1 else 0
theorem deg_sm {n:Int} {l:List Int} (h:rows n l) {v:Int} (v0:0≤v) (v1:v<n):deg l v=sm (adj l v) n.toNat:=by
 obtain⟨x,e,hx,_⟩:=h.nat v0 v1
 unfold deg adj
 rw[e,Int.toNat_natCast,pc_big hx (by have:=h.2.1;omega),pc_sm]
theorem row_sm {n:Int} {l:List Int} (h:rows n l) {v:Int} (v0:0≤v) (v1:v<n):((edgeRow v (ones (rd l v))).length:Int)=sm (fun w=>if v<w then adj l v w else 0) n.toNat:=by
 have hr:=h.2.2.2 v v0 v1
 obtain⟨x,e,hx,_⟩:=h.nat v0 v1
 rw[ones_to (n:=n) (by omega) h.2.1 hr.1 hr.2]
 unfold edgeRow
 rw[List.length_map,e,Int.toNat_natCast,len_filter]
 refine sm_congr _ fun w _ _=>?_
 unfold adj
 rw[e]
 by_cases a:tb (x:Int) w=true<;>by_cases b:v<w<;>simp[a,b]
theorem edges_sm {n:Int} {l:List Int} (h:rows n l) (m:Nat) (hm:(m:Int)≤n):((edgesTo l m).length:Int)=sm (fun v=>sm (fun w=>if v<w then adj l v w else 0) n.toNat) m:=by
 induction m with
 |zero=>rfl
 |succ m ih=>
  have s:sm (fun v=>sm (fun w=>if v<w then adj l v w else 0) n.toNat) (m+1)=sm (fun v=>sm (fun w=>if v<w then adj l v w else 0) n.toNat) m+sm (fun w=>if(m:Int)<w then adj l m w else 0) n.toNat:=rfl
  rw[s,← ih (by omega),← row_sm h (by omega) (by omega)]
  simp[edgesTo]
theorem deg_sum {n:Int} {l:List Int} (h:isG n l):sm (fun v=>deg l v) n.toNat=2*((edgesTo l n.toNat).length:Int):=by
 have n1:=h.1.1
 rw[edges_sm h.1 n.toNat (by omega)]
 have a:sm (fun v=>deg l v) n.toNat=sm (fun v=>sm (fun w=>if v<w then adj l v w else 0) n.toNat+sm (fun w=>if w<v then adj l v w else 0) n.toNat) n.toNat:=by
  refine sm_congr _ fun v v0 v1=>?_
  rw[deg_sm h.1 v0 (by omega),← sm_add]
  refine sm_congr _ fun w w0 w1=>?_
  by_cases p:v<w
  ·rw[if_pos p,if_neg (by omega)]
   omega
  ·by_cases q:w<v
   ·rw[if_neg p,if_pos q]
    omega
   ·rw[if_neg p,if_neg q]
    have:w=v:=by omega
    subst this
    unfold adj
    rw[h.2.1 w w0 (by omega)]
    rfl
 rw[a,sm_add,sm_swap (fun v w=>if w<v then adj l v w else 0)]
 have b:sm (fun j=>sm (fun i=>if j<i then adj l i j else 0) n.toNat) n.toNat=sm (fun v=>sm (fun w=>if v<w then adj l v w else 0) n.toNat) n.toNat:=by
  refine sm_congr _ fun v v0 v1=>sm_congr _ fun w w0 w1=>?_
  unfold adj
  rw[h.2.2 w v w0 (by omega) v0 (by omega)]
 rw[b]
 omega
def isComp (n:Int) (l r:List Int):Prop:=Mx n r (fun v w=>v≠w∧¬tb (rd l v) w=true)
theorem comp_isG {n:Int} {l r:List Int} (h:isG n l) (c:isComp n l r):isG n r:=by
 refine⟨Mx.rows c h.1.1 h.1.2.1,fun v v0 v1=>?_,fun v w v0 v1 w0 w1=>Bool.eq_iff_iff.2 ?_⟩
 ·have:=(c.2 v v0 v1).2 v v0 v1
  simpa using this
 ·rw[(c.2 v v0 v1).2 w w0 w1,(c.2 w w0 w1).2 v v0 v1]
  show(v≠w∧¬tb (rd l v) w=true)↔(w≠v∧¬tb (rd l w) v=true)
  rw[h.2.2 v w v0 v1 w0 w1]
  exact and_congr ⟨fun q=>q.symm,fun q=>q.symm⟩ Iff.rfl
theorem comp_back {n:Int} {l r s:List Int} (h:isG n l) (c:isComp n l r) (d:isComp n r s):s=l:=by
 refine Mx.eq (d.imp fun v w v0 v1 w0 w1=>?_) (mx_of h.1) (by have:=h.1.1;omega)
 rw[(c.2 v v0 v1).2 w w0 w1]
 by_cases z:v=w
 ·subst z
  simp[h.2.1 v v0 v1]
 ·simp[z]
theorem all_pairs {n:Int} {l r:List Int} (h:isG n l) (c:isComp n l r):2*(((edgesTo l n.toNat).length:Int)+(edgesTo r n.toNat).length)=n*(n-1):=by
 have n1:=h.1.1
 have hr:=comp_isG h c
 rw[Int.mul_add,← deg_sum h,← deg_sum hr,← sm_add]
 have a:sm (fun v=>deg l v+deg r v) n.toNat=sm (fun _=>if True then n-1 else 0) n.toNat:=by
  refine sm_congr _ fun v v0 v1=>?_
  rw[if_pos trivial,deg_sm h.1 v0 (by omega),deg_sm hr.1 v0 (by omega),← sm_add]
  have b:=sm_one v (fun _=>1) n.toNat v0 (by omega)
  have d:=sm_const n.toNat
  have e:sm (fun w=>(adj l v w+adj r v w)+(if w=v then 1 else 0)) n.toNat=sm (fun _=>1) n.toNat:=by
   refine sm_congr _ fun w w0 w1=>?_
   have cw:=(c.2 v v0 (by omega)).2 w w0 (by omega)
   unfold adj
   by_cases z:w=v
   ·subst z
    have:=h.2.1 w w0 (by omega)
    have:=hr.2.1 w w0 (by omega)
    simp[*]
   ·by_cases y:tb (rd l v) w=true
    ·have:¬tb (rd r v) w=true:=fun q=>(cw.1 q).2 y
     rw[if_pos y,if_neg this,if_neg z]
     rfl
    ·have:tb (rd r v) w=true:=cw.2 ⟨fun q=>z q.symm,y⟩
     rw[if_neg y,if_pos this,if_neg z]
     rfl
  rw[sm_add,b,d]at e
  omega
 rw[a,sm_mul (fun _=>True) (n-1) n.toNat]
 have:sm (fun _=>if True then(1:Int)else 0) n.toNat=n:=by
  rw[sm_congr n.toNat (g:=fun _=>1) fun _ _ _=>if_pos trivial,sm_const]
  omega
 rw[this]
def Rw (n x:Int):Prop:=0≤x∧x<2 ^ n.toNat
theorem Rw.nat {n x:Int} (n2:n≤62) (h:Rw n x):∃y:Nat,x=(y:Int)∧y<2 ^ n.toNat∧y<2 ^ 62:=by
 obtain⟨h0,h1⟩:=h
 have e:((2:Int) ^ n.toNat)=((2 ^ n.toNat:Nat):Int):=by simp
 have p:2 ^ n.toNat≤2 ^ 62:=Nat.pow_le_pow_right (by decide) (by omega)
 rw[e]at h1
 exact⟨x.toNat,by omega,by omega,by omega⟩
theorem Rw.of {n:Int} {y:Nat} (h:y<2 ^ n.toNat):Rw n (y:Int):=by
 have e:((2:Int) ^ n.toNat)=((2 ^ n.toNat:Nat):Int):=by simp
 exact⟨by omega,by rw[e];omega⟩
theorem andNot_rw {n x y:Int} (n2:n≤62) (hx:Rw n x) (hy:Rw n y):Rw n (bits .andNot .i64 x y)∧∀w,0≤w→(tb (bits .andNot .i64 x y) w=true↔tb x w=true∧¬tb y w=true):=by
 obtain⟨a,rfl,a1,a2⟩:=hx.nat n2
 obtain⟨b,rfl,b1,b2⟩:=hy.nat n2
 obtain⟨c,e,_,hc⟩:=andNot_nat a b (by omega) (by omega)
 rw[e]
 have c1:c<2 ^ n.toNat:=by
  refine Nat.lt_pow_two_of_testBit _ fun i hi=>?_
  rw[hc,Nat.testBit_lt_two_pow (Nat.lt_of_lt_of_le a1 (Nat.pow_le_pow_right (by decide) hi))]
  rfl
 refine⟨Rw.of c1,fun w w0=>?_⟩
 obtain⟨w,rfl⟩:=Int.eq_ofNat_of_zero_le w0
 rw[tb_nat,tb_nat,tb_nat,hc]
 simp
theorem and_split (k:Nat):∀x s:Nat,x<2 ^ k→∃y,x=(x &&& s)+y∧∀i,y.testBit i=(x.testBit i&&!s.testBit i):=by
 induction k with
 |zero=>
  intro x s h
  obtain rfl:x=0:=by omega
  exact⟨0,by simp,by simp⟩
 |succ k ih=>
  intro x s h
  rw[Nat.pow_succ]at h
  obtain⟨y,e,hy⟩:=ih (x/2) (s/2) (by omega)
  have d2:(x &&& s)/2=x/2 &&& s/2:=Nat.and_div_two
  have m2:(x &&& s) % 2=1↔x % 2=1∧s % 2=1:=Nat.and_mod_two_eq_one
  refine⟨2*y+(if x % 2=1∧¬s % 2=1 then 1 else 0),?_,fun i=>?_⟩
  ·split<;>omega
  ·cases i with
   |zero=>
    rw[Nat.testBit_zero,Nat.testBit_zero,Nat.testBit_zero]
    split
    ·rename_i z
     rw[show(2*y+1) % 2=1 by omega]
     simp[z.1,z.2]
    ·rename_i z
     rw[show(2*y+0) % 2=0 by omega]
     clear d2 m2 e hy ih h
     by_cases a:x % 2=1<;>by_cases b:s % 2=1
     ·rw[decide_eq_true a,decide_eq_true b];rfl
     ·exact absurd ⟨a,b⟩ z
     ·rw[decide_eq_false a,decide_eq_true b];rfl
     ·rw[decide_eq_false a,decide_eq_false b];rfl
   |succ i=>
    rw[Nat.testBit_succ,Nat.testBit_succ,Nat.testBit_succ,← hy]
    congr 1
    split<;>omega
theorem minus_and {n x y:Int} (n2:n≤62) (hx:Rw n x) (hy:Rw n y):Rw n (wrap64 (x-bits .and .i64 x y))∧∀w,0≤w→(tb (wrap64 (x-bits .and .i64 x y)) w=true↔tb x w=true∧¬tb y w=true):=by
 obtain⟨a,rfl,a1,a2⟩:=hx.nat n2
 obtain⟨b,rfl,b1,b2⟩:=hy.nat n2
 rw[and_nat a b (by omega) (by omega)]
 obtain⟨c,e,hc⟩:=and_split 62 a b a2
 rw[show(a:Int)-((a &&& b:Nat):Int)=(c:Int) by omega,w64 (by omega) (by omega)]
 refine⟨Rw.of (by omega),fun w w0=>?_⟩
 obtain⟨w,rfl⟩:=Int.eq_ofNat_of_zero_le w0
 rw[tb_nat,tb_nat,tb_nat,hc]
 simp
theorem one_rw {n j:Int} (n2:n≤62) (j0:0≤j) (j1:j<n):Rw n (shl .i64 1 j)∧∀w,0≤w→(tb (shl .i64 1 j) w=true↔w=j):=by
 rw[shl_one j0 (by omega),show((2:Int) ^ j.toNat)=((2 ^ j.toNat:Nat):Int) by simp]
 refine⟨Rw.of (Nat.pow_lt_pow_right (by decide) (by omega)),fun w w0=>?_⟩
 obtain⟨w,rfl⟩:=Int.eq_ofNat_of_zero_le w0
 rw[tb_nat,Nat.testBit_two_pow]
 simp
 omega
theorem and_in {n x y:Int} (n2:n≤62) (hx:Rw n x) (hy:Rw n y) (h:∀w,0≤w→tb y w=true→tb x w=true):bits .and .i64 x y=y:=by
 obtain⟨a,rfl,a1,a2⟩:=hx.nat n2
 obtain⟨b,rfl,b1,b2⟩:=hy.nat n2
 rw[and_nat a b (by omega) (by omega)]
 congr 1
 refine Nat.eq_of_testBit_eq fun i=>?_
 have:=h (i:Int) (by omega)
 rw[tb_nat,tb_nat]at this
 rw[Nat.testBit_and]
 by_cases z:b.testBit i=true
 ·rw[this z,z]
  rfl
 ·rw[Bool.eq_false_iff.2 z,Bool.and_false]
theorem all_rw {n:Int} (n1:1≤n) (n2:n≤62):Rw n (wrap64 (shl .i64 1 n-1))∧∀w,0≤w→(tb (wrap64 (shl .i64 1 n-1)) w=true↔w<n):=by
 have e:((2:Int) ^ n.toNat)=((2 ^ n.toNat:Nat):Int):=by simp
 have p:2 ^ n.toNat≤2 ^ 62:=Nat.pow_le_pow_right (by decide) (by omega)
 have q:0<2 ^ n.toNat:=Nat.pow_pos (by decide)
 rw[shl_one (by omega) n2,w64 (by omega) (by omega),e,show((2 ^ n.toNat:Nat):Int)-1=((2 ^ n.toNat-1:Nat):Int) by omega]
 refine⟨Rw.of (by omega),fun w w0=>?_⟩
 obtain⟨w,rfl⟩:=Int.eq_ofNat_of_zero_le w0
 rw[tb_nat,Nat.testBit_two_pow_sub_one,decide_eq_true_eq]
 omega
theorem comp_row {n x v:Int} (n1:1≤n) (n2:n≤62) (hx:Rw n x) (v0:0≤v) (v1:v<n) (hv:¬tb x v=true):(Rw n (bits .andNot .i64 (bits .andNot .i64 (wrap64 (shl .i64 1 n-1)) x) (shl .i64 1 v))∧∀w,0≤w→w<n→(tb (bits .andNot .i64 (bits .andNot .i64 (wrap64 (shl .i64 1 n-1)) x) (shl .i64 1 v)) w=true↔v≠w∧¬tb x w=true))∧(Rw n (wrap64 (wrap64 (wrap64 (shl .i64 1 n-1)-x)-shl .i64 1 v))∧∀w,0≤w→w<n→(tb (wrap64 (wrap64 (wrap64 (shl .i64 1 n-1)-x)-shl .i64 1 v)) w=true↔v≠w∧¬tb x w=true)):=by
 obtain⟨hA,hAb⟩:=all_rw n1 n2
 obtain⟨hO,hOb⟩:=one_rw n2 v0 v1
 obtain⟨h1,b1⟩:=andNot_rw n2 hA hx
 obtain⟨h2,b2⟩:=andNot_rw n2 h1 hO
 refine⟨⟨h2,fun w w0 w1=>?_⟩,?_⟩
 ·rw[b2 w w0,b1 w w0,hAb w w0,hOb w w0]
  exact⟨fun z=>⟨fun q=>z.2 q.symm,z.1.2⟩,fun z=>⟨⟨w1,z.2⟩,fun q=>z.1 q.symm⟩⟩
 ·have hx2:∀w,0≤w→tb x w=true→tb (wrap64 (shl .i64 1 n-1)) w=true:=fun w w0 z=>(hAb w w0).2 (by
   rcases Int.lt_or_le w n with q|q
   ·exact q
   ·rw[tb_high hx.1 hx.2 (by omega) q]at z
    cases z)
  obtain⟨h3,b3⟩:=minus_and n2 hA hx
  rw[and_in n2 hA hx hx2]at h3 b3
  obtain⟨h4,b4⟩:=minus_and n2 h3 hO
  have hO2:∀w,0≤w→tb (shl .i64 1 v) w=true→tb (wrap64 (wrap64 (shl .i64 1 n-1)-x)) w=true:=fun w w0 z=>by
   have:=(hOb w w0).1 z
   subst this
   exact(b3 w w0).2 ⟨(hAb w w0).2 v1,hv⟩
  rw[and_in n2 h3 hO hO2]at h4 b4
  refine⟨h4,fun w w0 w1=>?_⟩
  rw[b4 w w0,b3 w w0,hAb w w0,hOb w w0]
  exact⟨fun z=>⟨fun q=>z.2 q.symm,z.1.2⟩,fun z=>⟨⟨w1,z.2⟩,fun q=>z.1 q.symm⟩⟩
theorem mx_rows {n:Int} (n0:0≤n) (P:Int→Int→Prop) (f:Int→Int) (hf:∀v,0≤v→v<n→Rw n (f v)∧∀w,0≤w→w<n→(tb (f v) w=true↔P v w)) {R:Type} (L:Nat→Int→List Int→Option R) (res:List Int→R) (hend:∀m,(m.length:Int)=n→Ev (fun k=>L k n m) (res m)) (hstep:∀v m r,0≤v→v<n→(m.length:Int)=n→Ev (fun k=>L k (v+1) (m.set v.toNat (f v))) r→Ev (fun k=>L k v m) r) (m:List Int) (hm:(m.length:Int)=n):∃r,Mx n r P∧Ev (fun k=>L k 0 m) (res r):=by
 have loop:∀(d:Nat) (v:Int) (m:List Int),0≤v→n-v=d→(m.length:Int)=n→(∀u,0≤u→u<v→rd m u=f u)→∃r,Mx n r P∧Ev (fun k=>L k v m) (res r):=by
  intro d
  induction d with
  |zero=>
   intro v m v0 hd hm hv
   obtain rfl:v=n:=by omega
   refine⟨m,⟨hm,fun u u0 u1=>?_⟩,hend m hm⟩
   rw[hv u u0 u1]
   exact hf u u0 u1
  |succ d ih=>
   intro v m v0 hd hm hv
   obtain⟨r,hr,hE⟩:=ih (v+1) (m.set v.toNat (f v)) (by omega) (by omega) (by simpa using hm) (fun u u0 u1=>by
    rw[rd_set _ v0 (by omega) u0]
    split
    ·rename_i z
     rw[z]
    ·exact hv u u0 (by omega))
   exact⟨r,hr,hstep v m _ v0 (by omega) hm hE⟩
 exact loop n.toNat 0 m (by omega) (by omega) hm (by intros;omega)
theorem comp_both (n:Int) (l:List Int):∃m r c,r.length≤62∧Ev (fun k=>Qco.f k n l) (m,r,c)∧Ev (fun k=>Qap.f k n l) (m,r,c)∧(c=0→isG n l∧m=n∧isComp n l r)∧(isG n l→c=0):=by
 unfold Qco.f Qap.f Qag.f
 by_cases hg:isG n l
 ·have n1:=hg.1.1
  have n2:=hg.1.2.1
  have hl:=hg.1.2.2.1
  have row:∀v,0≤v→v<n→_:=fun v v0 v1=>comp_row n1 n2 (hg.1.2.2.2 v v0 v1) v0 v1 (by rw[hg.2.1 v v0 v1];simp)
  obtain⟨r,hr,hE⟩:=mx_rows (n:=n) (by omega) (fun v w=>v≠w∧¬tb (rd l v) w=true) (fun v=>bits .andNot .i64 (bits .andNot .i64 (wrap64 (shl .i64 1 n-1)) (rd l v)) (shl .i64 1 v)) (fun v v0 v1=>(row v v0 v1).1) (fun k v m=>Qap.l0 k l (l.length:Int) v n l n m) (fun m=>(n,m,(0:Int))) (fun m hm=>by
   refine ev_k ?_
   simp only[Qap.l0]
   exact ev_neg (by omega) (Ev.now _)) (fun v m r v0 v1 hm hE=>by
   refine ev_k ?_
   simp only[Qap.l0]
   rw[w64 (a:=v+1) (by omega) (by omega)]
   have ha:Qdp.f n=some (wrap64 (shl .i64 1 n-1)):=by unfold Qdp.f;rw[if_pos (by omega)]
   exact ev_pos (by omega) (ev_pos v0 (ev_pos (by omega) (ev_bind0 ha (ev_pos (by omega) hE))))) (List.replicate n.toNat 0) (by simp;omega)
  obtain⟨s,hs,hF⟩:=mx_rows (n:=n) (by omega) (fun v w=>v≠w∧¬tb (rd l v) w=true) (fun v=>wrap64 (wrap64 (wrap64 (shl .i64 1 n-1)-rd l v)-shl .i64 1 v)) (fun v v0 v1=>(row v v0 v1).2) (fun k v m=>Qag.l0 k v n l n m) (fun m=>(n,m)) (fun m hm=>by
   refine ev_k ?_
   simp only[Qag.l0]
   exact ev_neg (by omega) (Ev.now _)) (fun v m r v0 v1 hm hE=>by
   refine ev_k ?_
   simp only[Qag.l0]
   rw[w64 (a:=v+1) (by omega) (by omega),wu64 (a:=n) (by omega) (by omega),wu64 (a:=v) (by omega) (by omega)]
   exact ev_pos (by omega) (ev_pos (by omega) (ev_pos v0 (ev_pos (by omega) (ev_pos v0 (ev_pos (by omega) hE)))))) (List.replicate n.toNat 0) (by simp;omega)
  obtain rfl:=hr.eq hs (by omega)
  exact⟨n,r,0,by have:=hr.1;omega,Ev.bind ((s_is n l).yes hg) (ev_pos rfl (Ev.bind (a:=(n,r)) (ev_bind0 (s_empty n (by omega) n2) hF) (Ev.now _))),Ev.bind ((i_is n l).yes hg) (ev_pos rfl (ev_bind0 (i_empty n (by omega) n2) hE)),fun _=>⟨hg,rfl,hr⟩,fun _=>rfl⟩
 ·exact⟨0,[],1,by simp,Ev.bind ((s_is n l).no hg) (ev_neg (by simp) (Ev.now _)),Ev.bind ((i_is n l).no hg) (ev_neg (by simp) (Ev.now _)),fun q=>by simp at q,fun q=>absurd q hg⟩
theorem comp_yes {n:Int} {l:List Int} (h:isG n l):∃r,isComp n l r∧Ev (fun k=>Qap.f k n l) (n,r,0):=by
 obtain⟨m,r,c,_,_,hE,hc,hd⟩:=comp_both n l
 have:=hd h
 obtain⟨_,rfl,hr⟩:=hc this
 subst this
 exact⟨r,hr,hE⟩
theorem near_both (n:Int) (l:List Int) (v:Int):∃r c,r.length≤62∧Ev (fun k=>Qda.f k n l v) (r,c)∧Ev (fun k=>Qcz.f k n l v) (r,c):=by
 unfold Qda.f Qcz.f Qbq.f Qbw.f
 by_cases hg:isG n l
 ·have n1:=hg.1.1
  have n2:=hg.1.2.1
  have hl:=hg.1.2.2.1
  have e0:rd [v] 0=v:=rfl
  have w0:wrap64 ((0:Int)+1)=1:=w64 (by decide) (by decide)
  have wn:wrap64 (n-1)=n-1:=w64 (by omega) (by omega)
  by_cases hv:0≤v∧v<n
  ·have hr:=hg.1.2.2.2 v hv.1 hv.2
   have hp:=two_pow_le (n:=n) (by omega) n2
   have hs:Ev (fun k=>Qbq.l0 k [v] 0 n l) 0:=by
    refine ev_k ?_
    simp only[Qbq.l0,s_in,Option.bind_some]
    rw[e0,w0,wn]
    refine ev_pos (by simp) (ev_pos (Int.le_refl 0) (ev_pos (decide_eq_true (by omega)) (ev_k ?_)))
    simp only[Qbq.l0]
    exact ev_neg (by simp) (Ev.now _)
   have hi:Ev (fun k=>Qbw.l0 k [v] (([v]:List Int).length:Int) 0 n l) 0:=by
    refine ev_k ?_
    simp only[Qbw.l0]
    rw[e0,w0]
    refine ev_pos (by simp) (ev_pos (Int.le_refl 0) (ev_pos (by simp) (ev_neg (by omega) (ev_neg (by omega) (ev_k ?_)))))
    simp only[Qbw.l0]
    exact ev_neg (by simp) (Ev.now _)
   have loop:∀(e w:Nat) (acc:List Int),(w:Int)≤n→n.toNat-w=e→acc.length+e≤62→Ev (fun k=>Qbk.l0 k v acc w n l) (acc++onesFrom (rd l v).toNat e w):=by
    intro e
    induction e with
    |zero=>
     intro w acc w1 he hal
     refine ev_k ?_
     simp only[Qbk.l0]
     exact ev_neg (by omega) (ev_some (by simp[onesFrom]))
    |succ e ih=>
     intro w acc w1 he hal
     have hh:=s_has n l v (w:Int) hv.1 (by omega) (by omega) (by omega)
     have htb:tb (rd l v) (w:Int)=(rd l v).toNat.testBit w:=by rw[tb_toNat hr.1 (by omega),Int.toNat_natCast]
     refine ev_k ?_
     simp only[Qbk.l0,hh,Option.bind_some]
     rw[w64 (a:=(w:Int)+1) (by omega) (by omega)]
     refine ev_pos (by omega) ?_
     by_cases z:tb (rd l v) (w:Int)=true
     ·have:=ih (w+1) (acc++[(w:Int)]) (by omega) (by omega) (by simp;omega)
      rw[List.append_assoc]at this
      have o:onesFrom (rd l v).toNat (e+1) w=[(w:Int)]++onesFrom (rd l v).toNat e (w+1):=by
       simp only[onesFrom]
       rw[if_pos (by rw[← htb];exact z)]
       rfl
      rw[o]
      exact ev_pos z (ev_pos (by omega) this)
     ·have:=ih (w+1) acc (by omega) (by omega) (by omega)
      have o:onesFrom (rd l v).toNat (e+1) w=onesFrom (rd l v).toNat e (w+1):=by
       simp only[onesFrom]
       rw[if_neg (by rw[← htb];exact z)]
      rw[o]
      exact ev_neg z this
   have hN:=loop n.toNat 0 [] (by omega) (by omega) (by simp;omega)
   rw[List.nil_append,← ones_to (by omega) n2 hr.1 hr.2]at hN
   refine⟨ones (rd l v),0,ones_length _,Ev.bind (Ev.bind ((s_is n l).yes hg) (ev_pos rfl hs)) (ev_pos rfl (Ev.bind (a:=ones (rd l v)) ?_ (Ev.now _))),Ev.bind (Ev.bind ((i_is n l).yes hg) (ev_pos rfl hi)) (ev_pos rfl (ev_pos hv.1 (ev_pos (by omega) (Ev.bind (i_list hr.1 (by omega)) (Ev.now _)))))⟩
   unfold Qbk.f
   exact hN
  ·have hs:Ev (fun k=>Qbq.l0 k [v] 0 n l) 2:=by
    refine ev_k ?_
    simp only[Qbq.l0,s_in,Option.bind_some]
    rw[e0,wn]
    exact ev_pos (by simp) (ev_pos (Int.le_refl 0) (ev_neg (by simp;omega) (Ev.now _)))
   have hi:Ev (fun k=>Qbw.l0 k [v] (([v]:List Int).length:Int) 0 n l) 2:=by
    refine ev_k ?_
    simp only[Qbw.l0]
    rw[e0]
    refine ev_pos (by simp) (ev_pos (Int.le_refl 0) (ev_pos (by simp) ?_))
    by_cases q:v<0
    ·exact ev_pos q (Ev.now _)
    ·exact ev_neg q (ev_pos (by omega) (Ev.now _))
   exact⟨[],2,by simp,Ev.bind (Ev.bind ((s_is n l).yes hg) (ev_pos rfl hs)) (ev_neg (by decide) (Ev.now _)),Ev.bind (Ev.bind ((i_is n l).yes hg) (ev_pos rfl hi)) (ev_neg (by decide) (Ev.now _))⟩
 ·exact⟨[],1,by simp,Ev.bind (a:=1) (Ev.bind ((s_is n l).no hg) (ev_neg (by simp) (Ev.now _))) (ev_neg (by decide) (Ev.now _)),Ev.bind (a:=1) (Ev.bind ((i_is n l).no hg) (ev_neg (by simp) (Ev.now _))) (ev_neg (by decide) (Ev.now _))⟩
theorem graph_both (n:Int) (E:List (List Int)) (hE:E.length<1099511627776):∃m r c,r.length≤62∧Ev (fun k=>Qal.f k n E) (m,r,c)∧Ev (fun k=>Qai.f k n E) (m,r,c)∧((1≤n∧n≤62)→E.length≤4000→(∀e ∈ E,∃a b,e=[a,b]∧0≤a∧a<b∧b<n)→(m,r,c)=(n,puts (List.replicate n.toNat 0) E,0)):=by
 unfold Qal.f Qai.f
 simp only[s_in,Option.bind_some]
 have no:∀(n:Int),Ev (fun k=>Qal.j0 k n E true) (0,[],2)∧Ev (fun k=>Qai.j0 k n E true) (0,[],2):=fun n=>by
  constructor
  ·refine ev_k ?_
   simp only[Qal.j0]
   exact ev_pos trivial (Ev.now _)
  ·refine ev_k ?_
   simp only[Qai.j0]
   exact ev_pos trivial (Ev.now _)
 by_cases hn:1≤n∧n≤62
 ·by_cases hL:(E.length:Int)>4000
  ·refine⟨0,[],2,by simp,ev_pos (decide_eq_true hn) ?_,ev_neg (by omega) (ev_neg (by omega) ?_),fun _ q=>by omega⟩
   ·rw[decide_eq_true hL]
    exact(no n).1
   ·rw[decide_eq_true hL]
    exact(no n).2
  have loop:∀(F pre:List (List Int)) (m:List Int),pre++F=E→(m.length:Int)=n→∃a r c,r.length≤62∧Ev (fun k=>Qal.l0 k n E (pre.length:Int) n m) (a,r,c)∧Ev (fun k=>Qai.l0 k n E (E.length:Int) (pre.length:Int) n m) (a,r,c)∧((∀e ∈ F,∃a b,e=[a,b]∧0≤a∧a<b∧b<n)→(a,r,c)=(n,puts m F,0)):=by
   intro F
   induction F with
   |nil=>
    intro pre m hp hm
    rw[List.append_nil]at hp
    subst hp
    refine⟨n,m,0,by omega,ev_k ?_,ev_k ?_,fun _=>rfl⟩
    ·simp only[Qal.l0]
     exact ev_neg (by omega) (Ev.now _)
    ·simp only[Qai.l0]
     exact ev_neg (by omega) (Ev.now _)
   |cons e F ih=>
    intro pre m hp hm
    have hlt:pre.length<E.length:=by rw[← hp];simp
    have he:rd_L4 E (pre.length:Int)=e:=by
     rw[← hp]
     simp[rd_L4,List.getD_eq_getElem?_getD]
    have wp:wrap64 ((pre.length:Int)+1)=((pre++[e]).length:Int):=by
     rw[w64 (by omega) (by omega)]
     simp
    have wn:wrap64 (n-1)=n-1:=w64 (by omega) (by omega)
    have bad:∀{P:Prop},P→((∃a b,e=[a,b]∧0≤a∧a<b∧b<n)→¬P)→((∀x ∈ e :: F,∃a b,x=[a,b]∧0≤a∧a<b∧b<n)→((0:Int),([]:List Int),(2:Int))=(n,puts m (e :: F),0)):=fun p q h=>absurd p (q (h e (List.mem_cons_self ..)))
    by_cases h2:(e.length:Int)=2
    ·obtain⟨a,b,rfl⟩:∃a b,e=[a,b]:=by
      match e,h2 with
      |[a,b],_=>exact⟨a,b,rfl⟩
      |[],h=>simp at h
      |[_],h=>simp at h
      |_ :: _ :: _ :: _,h=>simp at h;omega
     have r0:rd [a,b] 0=a:=rfl
     have r1:rd [a,b] 1=b:=rfl
     by_cases ha:0≤a∧a<n
     ·by_cases hb:0≤b∧b<n
      ·by_cases hab:a=b
       ·refine⟨0,[],2,by simp,ev_k ?_,ev_k ?_,bad hab (by rintro⟨x,y,q,h⟩;simp only[List.cons.injEq,and_true]at q;omega)⟩
        ·simp only[Qal.l0,he,r0,r1,s_in,Option.bind_some,wn]
         exact ev_pos (by omega) (ev_pos (by omega) (ev_pos h2 (ev_pos (by simp) (ev_pos (decide_eq_true (by omega)) (ev_pos (by simp) (ev_pos (decide_eq_true (by omega)) (ev_pos hab (Ev.now _))))))))
        ·simp only[Qai.l0,he,r0,r1]
         exact ev_pos (by omega) (ev_pos (by omega) (ev_pos (by omega) (ev_pos h2 (ev_pos (by simp) (ev_neg (by omega) (ev_neg (by omega) (ev_pos (by simp) (ev_neg (by omega) (ev_neg (by omega) (ev_pos hab (Ev.now _)))))))))))
       ·have hj:=joined_len m a b
        obtain⟨x,r,c,hr,hs,hi,hq⟩:=ih (pre++[[a,b]]) (joined m a b) (by rw[← hp];simp) (by omega)
        refine⟨x,r,c,hr,ev_k ?_,ev_k ?_,fun h=>hq fun y hy=>h y (List.mem_cons_of_mem _ hy)⟩
        ·simp only[Qal.l0,he,r0,r1,s_in,Option.bind_some,wn]
         rw[wp]
         exact ev_pos (by omega) (ev_pos (by omega) (ev_pos h2 (ev_pos (by simp) (ev_pos (decide_eq_true (by omega)) (ev_pos (by simp) (ev_pos (decide_eq_true (by omega)) (ev_neg hab (ev_bind0 (s_put n m a b ha.1 (by omega) hb.1 (by omega) (by omega)) hs))))))))
        ·simp only[Qai.l0,he,r0,r1]
         rw[wp]
         exact ev_pos (by omega) (ev_pos (by omega) (ev_pos (by omega) (ev_pos h2 (ev_pos (by simp) (ev_neg (by omega) (ev_neg (by omega) (ev_pos (by simp) (ev_neg (by omega) (ev_neg (by omega) (ev_neg hab (ev_bind0 (i_put n m a b ha.1 (by omega) hb.1 (by omega) hab) hi)))))))))))
      ·refine⟨0,[],2,by simp,ev_k ?_,ev_k ?_,bad hb (by rintro⟨x,y,q,h⟩;simp only[List.cons.injEq,and_true]at q;omega)⟩
       ·simp only[Qal.l0,he,r0,r1,s_in,Option.bind_some,wn]
        exact ev_pos (by omega) (ev_pos (by omega) (ev_pos h2 (ev_pos (by simp) (ev_pos (decide_eq_true (by omega)) (ev_pos (by simp) (ev_neg (by simp;omega) (Ev.now _)))))))
       ·simp only[Qai.l0,he,r0,r1]
        refine ev_pos (by omega) (ev_pos (by omega) (ev_pos (by omega) (ev_pos h2 (ev_pos (by simp) (ev_neg (by omega) (ev_neg (by omega) (ev_pos (by simp) ?_)))))))
        by_cases q:b<0
        ·exact ev_pos q (Ev.now _)
        ·exact ev_neg q (ev_pos (by omega) (Ev.now _))
     ·refine⟨0,[],2,by simp,ev_k ?_,ev_k ?_,bad ha (by rintro⟨x,y,q,h⟩;simp only[List.cons.injEq,and_true]at q;omega)⟩
      ·simp only[Qal.l0,he,r0,r1,s_in,Option.bind_some,wn]
       exact ev_pos (by omega) (ev_pos (by omega) (ev_pos h2 (ev_pos (by simp) (ev_neg (by simp;omega) (Ev.now _)))))
      ·simp only[Qai.l0,he,r0,r1]
       refine ev_pos (by omega) (ev_pos (by omega) (ev_pos (by omega) (ev_pos h2 (ev_pos (by simp) ?_))))
       by_cases q:a<0
       ·exact ev_pos q (Ev.now _)
       ·exact ev_neg q (ev_pos (by omega) (Ev.now _))
    ·refine⟨0,[],2,by simp,ev_k ?_,ev_k ?_,bad h2 (by rintro⟨x,y,rfl,h⟩;simp)⟩
     ·simp only[Qal.l0,he]
      exact ev_pos (by omega) (ev_pos (by omega) (ev_neg h2 (Ev.now _)))
     ·simp only[Qai.l0,he]
      exact ev_pos (by omega) (ev_pos (by omega) (ev_pos (by omega) (ev_neg h2 (Ev.now _))))
  obtain⟨a,r,c,hr,hs,hi,hq⟩:=loop E [] (List.replicate n.toNat 0) rfl (by simp;omega)
  refine⟨a,r,c,hr,ev_pos (decide_eq_true hn) ?_,ev_neg (by omega) (ev_neg (by omega) ?_),fun _ _ h=>hq h⟩
  ·rw[decide_eq_false hL]
   refine ev_k ?_
   simp only[Qal.j0]
   exact ev_neg (by simp) (ev_bind0 (s_empty n (by omega) hn.2) hs)
  ·rw[decide_eq_false hL]
   refine ev_k ?_
   simp only[Qai.j0]
   exact ev_neg (by simp) (ev_bind0 (i_empty n (by omega) hn.2) hi)
 ·refine⟨0,[],2,by simp,ev_neg (by simp;omega) (no n).1,?_,fun q=>absurd q hn⟩
  by_cases q:n<1
  ·exact ev_pos q (no n).2
  ·exact ev_neg q (ev_pos (by omega) (no n).2)
theorem graph_edges {n:Int} {l:List Int} (h:isG n l):Ev (fun k=>Qai.f k n (edgesTo l n.toNat)) (n,l,0):=by
 have hlen:=edgesTo_length l n.toNat
 have n1:=h.1.1
 have n2:=h.1.2.1
 obtain⟨m,r,c,_,_,hi,hq⟩:=graph_both n (edgesTo l n.toNat) (by omega)
 have e:=hq ⟨n1,n2⟩ (by omega) (okE_mem (edges_ok h.1))
 rw[e,puts_edges h]at hi
 exact hi
def tx (l:List UInt8):ByteArray:=⟨l.toArray⟩
theorem tx_data (l:List UInt8):(tx l).data.toList=l:=by simp[tx]
theorem tx_size (l:List UInt8):(tx l).size=l.length:=by simp[tx,ByteArray.size]
theorem tx_app (a b:List UInt8):tx a++tx b=tx (a++b):=ByteArray.ext (by simp[tx])
theorem tx_list (l:List UInt8):(tx l).toList=l:=by rw[Lib.toList_data,tx_data]
theorem tx_bt (pre r:List UInt8) (c:UInt8):bt (tx (pre++c :: r)) (pre.length:Int)=c.toNat:=by
 have h:((pre.length:Int)).toNat<(tx (pre++c :: r)).size:=by rw[tx_size];simp
 unfold bt
 rw[dif_pos h,ByteArray.getElem_eq_getElem_data]
 simp[tx]
theorem tx_ext (l:List UInt8) (i j:Nat):(tx l).extract i j=tx ((l.drop i).take (j-i)):=ByteArray.ext (by
 have:((tx l).extract i j).data.toList=(l.drop i).take (j-i):=by simp[tx]
 exact Array.toList_inj.1 (by rw[this];simp[tx]))
theorem pow_up (m:Nat) (h:m≤9):(10:Int) ^ m≤1000000000:=by
 have:10 ^ m≤10 ^ 9:=Nat.pow_le_pow_right (by decide) h
 have e:((10:Int) ^ m)=((10 ^ m:Nat):Int):=by simp
 rw[e]
 omega
theorem digit_in {acc:Int} {c:UInt8} {m:Nat} (h0:0≤acc) (h1:acc<10 ^ m) (hm:m+1≤9) (c0:¬c.toNat<48) (c1:¬57<c.toNat):wrap64 (wrap64 (acc*10)+(((c.toNat:Int)-48) % 256))=acc*10+((c.toNat:Int)-48)∧0≤acc*10+((c.toNat:Int)-48)∧acc*10+((c.toNat:Int)-48)<10 ^ (m+1):=by
 have p:=pow_up m (by omega)
 rw[Int.pow_succ]
 rw[w64 (a:=acc*10) (by omega) (by omega),Int.emod_eq_of_lt (by omega) (by omega),w64 (by omega) (by omega)]
 omega
theorem num_loop {R:Type} (t:List UInt8) (L:Nat→Int→Int→Option R) (yes:Int→R) (no:R) (hend:∀acc,Ev (fun k=>L k acc (t.length:Int)) (yes acc))
  (hbad:∀pre c r acc,t=pre++c :: r→(c.toNat<48∨57<c.toNat)→Ev (fun k=>L k acc (pre.length:Int)) no)
  (hgo:∀pre c r acc x,t=pre++c :: r→¬c.toNat<48→¬57<c.toNat→Ev (fun k=>L k (wrap64 (wrap64 (acc*10)+(((c.toNat:Int)-48) % 256))) ((pre.length:Int)+1)) x→Ev (fun k=>L k acc (pre.length:Int)) x) (ht:t.length≤9) :
  ∀(r pre:List UInt8) (acc:Int),t=pre++r→0≤acc→acc<10 ^ pre.length→Ev (fun k=>L k acc (pre.length:Int)) (match numL acc r with|some n=>yes n|none=>no):=by
 intro r
 induction r with
 |nil=>
  intro pre acc hp _ _
  rw[List.append_nil]at hp
  subst hp
  exact hend acc
 |cons c r ih=>
  intro pre acc hp h0 h1
  have hl:pre.length+1≤9:=by
   rw[hp]at ht
   simp at ht
   omega
  by_cases hc:c.toNat<48∨57<c.toNat
  ·have e:numL acc (c :: r)=none:=by simp only[numL];rw[if_pos hc]
   rw[e]
   exact hbad pre c r acc hp hc
  ·have c0:¬c.toNat<48:=fun q=>hc (.inl q)
   have c1:¬57<c.toNat:=fun q=>hc (.inr q)
   obtain⟨w,a0,a1⟩:=digit_in (m:=pre.length) h0 h1 hl c0 c1
   have e:numL acc (c :: r)=numL (acc*10+((c.toNat:Int)-48)) r:=by simp only[numL];rw[if_neg hc]
   have:=ih (pre++[c]) (acc*10+((c.toNat:Int)-48)) (by rw[hp];simp) a0 (by simpa using a1)
   rw[e]
   refine hgo pre c r acc _ hp c0 c1 ?_
   rw[w]
   simpa using this
theorem head_bt {t:List UInt8} (h:0<t.length):bt (tx t) 0=48↔t.head? =some 48:=by
 cases t with
 |nil=>simp at h
 |cons c r=>
  have:=tx_bt [] r c
  simp only[List.nil_append,List.length_nil]at this
  rw[show((0:Nat):Int)=0 from rfl]at this
  rw[this,List.head?_cons,Option.some.injEq]
  constructor
  ·intro q
   rw[u8_of (c:=c) (m:=48) (by omega)]
   rfl
  ·intro q
   rw[q]
   rfl
theorem i_num (t:List UInt8):Ev (fun k=>Qav.f k (tx t)) (match num t with|some n=>(n,true)|none=>(0,false)):=by
 unfold Qav.f
 have hno:∀b:Bool,b=true→num t=none→Ev (fun k=>Qav.j0 k (tx t) b) (match num t with|some n=>(n,true)|none=>(0,false)):=fun b hb hn=>by
  rw[hn]
  refine ev_k ?_
  simp only[Qav.j0]
  exact ev_pos hb (Ev.now _)
 by_cases z:t=[]
 ·exact ev_pos (by rw[tx_list];exact z) (hno _ rfl (by unfold num;rw[if_pos (.inl (by simp[z]))]))
 have tl:0<t.length:=by
  cases t with
  |nil=>exact absurd rfl z
  |cons c r=>simp
 refine ev_neg (by rw[tx_list];exact z) ?_
 by_cases z9:9<t.length
 ·exact ev_pos (by rw[tx_size];omega) (hno _ rfl (by unfold num;rw[if_pos (.inr (.inl z9))]))
 refine ev_neg (by rw[tx_size];omega) (ev_pos (by rw[tx_size];omega) ?_)
 have hgo:¬(1<t.length∧t.head? =some 48)→Ev (fun k=>Qav.j0 k (tx t) false) (match num t with|some n=>(n,true)|none=>(0,false)):=fun hh=>by
  have e:num t=numL 0 t:=by unfold num;rw[if_neg (by rintro(q|q|q);omega;omega;exact hh q)]
  rw[e]
  refine ev_k ?_
  simp only[Qav.j0]
  refine ev_neg (by simp) ?_
  have:=num_loop t (fun k acc i=>Qav.l0 k (tx t) acc ((tx t).size:Int) i) (fun n=>(n,true)) (0,false) (fun acc=>by
   refine ev_k ?_
   simp only[Qav.l0]
   exact ev_neg (by rw[tx_size];omega) (Ev.now _)) (fun pre c r acc hp hc=>by
   have b:=tx_bt pre r c
   rw[← hp]at b
   have hlt:pre.length<t.length:=by rw[hp];simp
   refine ev_k ?_
   simp only[Qav.l0,b]
   refine ev_pos (by rw[tx_size];omega) (ev_pos (by omega) (ev_pos (by rw[tx_size];omega) ?_))
   by_cases q:c.toNat<48
   ·exact ev_pos (by omega) (Ev.now _)
   ·exact ev_neg (by omega) (ev_pos (by omega) (Ev.now _))) (fun pre c r acc x hp c0 c1 hx=>by
   have b:=tx_bt pre r c
   rw[← hp]at b
   have hlt:pre.length<t.length:=by rw[hp];simp
   refine ev_k ?_
   simp only[Qav.l0,b]
   rw[w64 (a:=(pre.length:Int)+1) (by omega) (by omega)]
   exact ev_pos (by rw[tx_size];omega) (ev_pos (by omega) (ev_pos (by rw[tx_size];omega) (ev_neg (by omega) (ev_neg (by omega) hx))))) (by omega) t [] 0 rfl (by omega) (by simp)
  exact this
 by_cases hh:bt (tx t) 0=48
 ·refine ev_pos hh ?_
  by_cases q:1<t.length
  ·refine hno _ (decide_eq_true (by rw[tx_size];omega)) ?_
   unfold num
   rw[if_pos (.inr (.inr ⟨q,(head_bt tl).1 hh⟩))]
  ·rw[decide_eq_false (by rw[tx_size];omega)]
   exact hgo fun y=>q y.1
 ·exact ev_neg hh (hgo fun y=>hh ((head_bt tl).2 y.2))
theorem s_num (t:List UInt8):Ev (fun k=>Qac.f k (tx t)) (match num t with|some n=>n|none=>-1):=by
 unfold Qac.f
 have hno:∀b:Bool,b=true→num t=none→Ev (fun k=>Qac.j0 k (tx t) b) (match num t with|some n=>n|none=>-1):=fun b hb hn=>by
  rw[hn]
  refine ev_k ?_
  simp only[Qac.j0]
  exact ev_pos hb (Ev.now _)
 by_cases z:t.length=0
 ·exact ev_pos (by rw[tx_size];omega) (hno _ rfl (by unfold num;rw[if_pos (.inl z)]))
 refine ev_neg (by rw[tx_size];omega) ?_
 by_cases z9:9<t.length
 ·exact ev_pos (by rw[tx_size];omega) (hno _ rfl (by unfold num;rw[if_pos (.inr (.inl z9))]))
 refine ev_neg (by rw[tx_size];omega) ?_
 have hgo:¬(1<t.length∧t.head? =some 48)→Ev (fun k=>Qac.j0 k (tx t) false) (match num t with|some n=>n|none=>-1):=fun hh=>by
  have e:num t=numL 0 t:=by unfold num;rw[if_neg (by rintro(q|q|q);omega;omega;exact hh q)]
  rw[e]
  refine ev_k ?_
  simp only[Qac.j0]
  refine ev_neg (by simp) ?_
  have:=num_loop t (fun k acc i=>Qac.l0 k (tx t) acc i) (fun n=>n) (-1) (fun acc=>by
   refine ev_k ?_
   simp only[Qac.l0]
   exact ev_neg (by rw[tx_size];omega) (Ev.now _)) (fun pre c r acc hp hc=>by
   have b:=tx_bt pre r c
   rw[← hp]at b
   have hlt:pre.length<t.length:=by rw[hp];simp
   refine ev_k ?_
   simp only[Qac.l0,b]
   refine ev_pos (by rw[tx_size];omega) (ev_pos (by omega) ?_)
   by_cases q:c.toNat<48
   ·exact ev_pos (by omega) (Ev.now _)
   ·exact ev_neg (by omega) (ev_pos (by omega) (Ev.now _))) (fun pre c r acc x hp c0 c1 hx=>by
   have b:=tx_bt pre r c
   rw[← hp]at b
   have hlt:pre.length<t.length:=by rw[hp];simp
   refine ev_k ?_
   simp only[Qac.l0,b]
   rw[w64 (a:=(pre.length:Int)+1) (by omega) (by omega)]
   exact ev_pos (by rw[tx_size];omega) (ev_pos (by omega) (ev_neg (by omega) (ev_neg (by omega) hx)))) (by omega) t [] 0 rfl (by omega) (by simp)
  exact this
 by_cases q:1<t.length
 ·refine ev_pos (by rw[tx_size];omega) (ev_pos (by rw[tx_size];omega) ?_)
  by_cases hh:bt (tx t) 0=48
  ·exact hno _ (by simpa using hh) (by unfold num;rw[if_pos (.inr (.inr ⟨q,(head_bt (by omega)).1 hh⟩))])
  ·have:(bt (tx t) 0==48)=false:=by simpa using hh
   simp only[this]
   exact hgo fun y=>hh ((head_bt (by omega)).2 y.2)
 ·exact ev_neg (by rw[tx_size];omega) (hgo fun y=>q y.1)
def spA (c:UInt8) (cur:List UInt8):List UInt8→List (List UInt8)
 |[]=>[cur]
 |x :: r=>if x=c then cur :: spA c [] r else spA c (cur++[x]) r
theorem spA_sp (c:UInt8) (r:List UInt8):∀cur,spA c cur r=match sp c r with|[]=>[cur]|h :: t=>(cur++h) :: t:=by
 induction r with
 |nil=>intro cur;simp[spA,sp]
 |cons x r ih=>
  intro cur
  simp only[spA,sp]
  obtain⟨h,t,e⟩:=sp_ne c r
  split
  ·rw[ih,e]
   simp
  ·rw[ih,e]
   simp
theorem spA_nil (c:UInt8) (r:List UInt8):spA c [] r=sp c r:=by
 rw[spA_sp]
 obtain⟨h,t,e⟩:=sp_ne c r
 rw[e]
 simp
theorem s_split (t:List UInt8) (c:UInt8) (ht:t.length<8796093022208):Ev (fun k=>Qao.f k (tx t) (c.toNat:Int)) ((sp c t).map tx):=by
 have loop:∀(r pre cur:List UInt8) (acc:List ByteArray),t=pre++cur++r→acc.length≤pre.length→Ev (fun k=>Qao.l0 k (tx t) (c.toNat:Int) acc (pre.length:Int) ((pre.length:Int)+(cur.length:Int))) (acc++(spA c cur r).map tx):=by
  intro r
  induction r with
  |nil=>
   intro pre cur acc hp ha
   rw[List.append_nil]at hp
   have hl:t.length=pre.length+cur.length:=by rw[hp];simp
   refine ev_k ?_
   simp only[Qao.l0]
   refine ev_neg (by rw[tx_size];omega) (ev_pos (by omega) (ev_pos (by rw[tx_size];omega) (ev_pos (by omega) (ev_some ?_))))
   rw[tx_size,Int.toNat_natCast,tx_ext]
   have e:(t.drop pre.length).take (t.length-pre.length)=cur:=by rw[hp];simp
   rw[e]
   simp[spA]
  |cons x r ih=>
   intro pre cur acc hp ha
   have hl:t.length=pre.length+cur.length+r.length+1:=by rw[hp];simp;omega
   have b:=tx_bt (pre++cur) r x
   rw[← hp]at b
   rw[show(((pre++cur).length:Nat):Int)=(pre.length:Int)+(cur.length:Int) by simp]at b
   have w1:wrap64 ((pre.length:Int)+(cur.length:Int)+1)=(pre.length:Int)+(cur.length:Int)+1:=w64 (by omega) (by omega)
   refine ev_k ?_
   simp only[Qao.l0,b,w1]
   refine ev_pos (by rw[tx_size];omega) (ev_pos (by omega) ?_)
   by_cases z:x=c
   ·subst z
    have:=ih (pre++cur++[x]) [] (acc++[tx cur]) (by rw[hp];simp) (by simp;omega)
    have e:(tx t).extract ((pre.length:Int)).toNat ((pre.length:Int)+(cur.length:Int)).toNat=tx cur:=by
     rw[tx_ext]
     congr 1
     rw[hp,Int.toNat_natCast,show((pre.length:Int)+(cur.length:Int)).toNat-pre.length=cur.length by omega]
     simp
    rw[e]
    simp only[spA,if_true]
    simp only[List.length_append,List.length_nil,List.length_singleton,Int.natCast_add,List.append_assoc]at this
    rw[show((0:Nat):Int)=0 from rfl,Int.add_zero,← Int.add_assoc]at this
    refine ev_pos (by omega) (ev_pos (by omega) (ev_pos (by rw[tx_size];omega) (ev_pos (by omega) ?_)))
    simpa using this
   ·have ne:¬((x.toNat:Int)=(c.toNat:Int)):=fun q=>z (UInt8.toNat_inj.1 (by omega))
    have:=ih pre (cur++[x]) acc (by rw[hp];simp) ha
    simp only[spA]
    rw[if_neg z]
    refine ev_neg ne ?_
    rw[show(((cur++[x]).length:Nat):Int)=(cur.length:Int)+1 by simp,← Int.add_assoc]at this
    exact this
 have:=loop t [] [] [] (by simp) (by simp)
 unfold Qao.f
 rw[spA_nil]at this
 simpa using this
theorem has_or (c:UInt8) (t:List UInt8):c ∉ t∨∃a r,t=a++c :: r∧c ∉ a:=by
 induction t with
 |nil=>exact .inl (by simp)
 |cons x t ih=>
  by_cases z:x=c
  ·exact .inr ⟨[],t,by simp[z],by simp⟩
  ·rcases ih with h|⟨a,r,rfl,h⟩
   ·exact .inl (by simp only[List.mem_cons,not_or];exact⟨fun q=>z q.symm,h⟩)
   ·exact .inr ⟨x :: a,r,by simp,by simp only[List.mem_cons,not_or];exact⟨fun q=>z q.symm,h⟩⟩
theorem index_none {c:UInt8} {t:List UInt8} (h:c ∉ t):Lib.indexByte t c=-1:=by
 induction t with
 |nil=>rfl
 |cons x t ih=>
  simp only[List.mem_cons,not_or]at h
  simp only[Lib.indexByte,ih h.2]
  rw[if_neg (by simpa using fun q=>h.1 q.symm)]
  rfl
theorem index_at {c:UInt8} {a:List UInt8} (h:c ∉ a) (r:List UInt8):Lib.indexByte (a++c :: r) c=(a.length:Int):=by
 induction a with
 |nil=>simp[Lib.indexByte]
 |cons x a ih=>
  simp only[List.mem_cons,not_or]at h
  rw[List.cons_append]
  simp only[Lib.indexByte,ih h.2]
  rw[if_neg (by simpa using fun q=>h.1 q.symm),if_neg (by simp)]
  simp
theorem i_index (t:List UInt8) (c:UInt8):stringslite_Index.f (tx t) ⟨#[c]⟩=some (Lib.indexByte t c):=by
 show some (Lib.indexByte (tx t).data.toList c)=_
 rw[tx_data]
theorem i_cut_at {c:UInt8} {a:List UInt8} (h:c ∉ a) (r:List UInt8) (hl:(a++c :: r).length<9223372036854775807):Qcf.f (tx (a++c :: r)) ⟨#[c]⟩=some (tx a,tx r,true):=by
 have l:(a++c :: r).length=a.length+1+r.length:=by simp;omega
 have one:(⟨#[c]⟩:ByteArray).size=1:=rfl
 unfold Qcf.f stringslite_Cut.f
 rw[i_index,index_at h,one]
 simp only[Option.bind_some]
 rw[w64 (a:=(a.length:Int)+((1:Nat):Int)) (by omega) (by omega),if_pos (by omega),if_pos (by omega),if_pos (by rw[tx_size];omega),if_pos (by omega),if_pos (by rw[tx_size];omega)]
 simp only[Option.bind_some]
 rw[tx_size,tx_ext,tx_ext,Int.toNat_natCast,show((a.length:Int)+((1:Nat):Int)).toNat=a.length+1 by omega]
 have e1:((a++c :: r).drop 0).take (a.length-0)=a:=by simp
 have e2:((a++c :: r).drop (a.length+1)).take ((a++c :: r).length-(a.length+1))=r:=by
  rw[show a++c :: r=(a++[c])++r by simp,show a.length+1=(a++[c]).length by simp,List.drop_left]
  exact List.take_of_length_le (by simp;omega)
 rw[e1,e2]
theorem i_cut_no {c:UInt8} {t:List UInt8} (h:c ∉ t):Qcf.f (tx t) ⟨#[c]⟩=some (tx t,tx [],false):=by
 unfold Qcf.f stringslite_Cut.f
 rw[i_index,index_none h]
 rfl
theorem i_split (t:List UInt8) (c:UInt8) (ht:t.length≤1000000):Ev (fun k=>Qdl.f k (tx t) ⟨#[c]⟩) ((sp c t).map tx):=by
 have one:(⟨#[c]⟩:ByteArray).size=1:=rfl
 have hc:Qce.f (tx t) ⟨#[c]⟩=some ((Lib.countByte t c:Nat):Int):=by
  show some ((Lib.countByte (tx t).data.toList c:Nat):Int)=_
  rw[tx_data]
 have cl:Lib.countByte t c≤t.length:=List.count_le_length ..
 have loop:∀(d:Nat) (r:List UInt8) (done:List (List UInt8)),Lib.countByte r c=d→r.length≤1000000→done.length+d≤1000001→Ev (fun k=>Qax.l0 k (tx r) ⟨#[c]⟩ 0 ((done.length:Int)+d) (done.map tx++List.replicate (d+1) (⟨#[]⟩:ByteArray)) (done.length:Int)) ((done++sp c r).map tx):=by
  intro d
  induction d with
  |zero=>
   intro r done hd hr hl
   have hn:c ∉ r:=List.count_eq_zero.1 hd
   refine ev_k ?_
   simp only[Qax.l0]
   rw[w64 (a:=(done.length:Int)+1) (by omega) (by omega)]
   refine ev_neg (by omega) (ev_pos (by omega) (ev_pos (by simp<;>omega) (ev_pos (by omega) (ev_pos (by simp<;>omega) (ev_some ?_)))))
   rw[sp_none hn,show((done.length:Int)+1).toNat=done.length+1 by omega,Int.toNat_natCast]
   rw[List.set_append_right _ _ (by simp)]
   refine(List.take_of_length_le (by simp)).trans ?_
   simp
  |succ d ih=>
   intro r done hd hr hl
   have hm:c ∈ r:=List.count_pos_iff.1 (by unfold Lib.countByte at hd;omega)
   rcases has_or c r with h|⟨a,r',rfl,ha⟩
   ·exact absurd hm h
   have l:(a++c :: r').length=a.length+1+r'.length:=by simp;omega
   have hd':Lib.countByte r' c=d:=by
    unfold Lib.countByte at *
    rw[List.count_append,List.count_cons_self,List.count_eq_zero.2 ha]at hd
    omega
   have:=ih r' (done++[a]) hd' (by omega) (by simp;omega)
   have ei:Qdd.f (tx (a++c :: r')) ⟨#[c]⟩=some (a.length:Int):=by
    unfold Qdd.f
    rw[i_index,index_at ha]
    rfl
   refine ev_k ?_
   simp only[Qax.l0,one]
   refine ev_pos (by omega) (ev_bind0 ei ?_)
   rw[w64 (a:=(a.length:Int)+0) (by omega) (by omega),w64 (a:=(a.length:Int)+((1:Nat):Int)) (by omega) (by omega),w64 (a:=(done.length:Int)+1) (by omega) (by omega)]
   refine ev_neg (by omega) (ev_pos (by omega) (ev_pos (by rw[tx_size];omega) (ev_pos (by omega) (ev_pos (by simp;omega) (ev_pos (by omega) (ev_pos (by rw[tx_size];omega) ?_))))))
   rw[tx_size,tx_ext,tx_ext,show((a.length:Int)+0).toNat=a.length by omega,show((a.length:Int)+((1:Nat):Int)).toNat=a.length+1 by omega,Int.toNat_natCast]
   have e1:((a++c :: r').drop 0).take (a.length-0)=a:=by simp
   have e2:((a++c :: r').drop (a.length+1)).take ((a++c :: r').length-(a.length+1))=r':=by
    rw[show a++c :: r'=(a++[c])++r' by simp,show a.length+1=(a++[c]).length by simp,List.drop_left]
    exact List.take_of_length_le (by simp;omega)
   rw[e1,e2,sp_cut ha]
   have e3:(done.map tx++List.replicate (d+1+1) (⟨#[]⟩:ByteArray)).set done.length (tx a)=(done++[a]).map tx++List.replicate (d+1) (⟨#[]⟩:ByteArray):=by
    rw[List.set_append_right _ _ (by simp)]
    simp[List.replicate_succ]
   rw[e3]
   rw[show(((done++[a]).length:Nat):Int)=(done.length:Int)+1 by simp,show done++[a]++sp c r'=done++(a :: sp c r') by simp,Int.add_assoc,Int.add_comm 1 (d:Int)]at this
   rw[show(((d+1:Nat)):Int)=(d:Int)+1 by omega]
   exact this
 have main:Ev (fun k=>Qax.f k (tx t) ⟨#[c]⟩ 0 (-1)) ((sp c t).map tx):=by
  unfold Qax.f
  refine ev_neg (by decide) (ev_neg (by rw[show(⟨#[c]⟩:ByteArray)=tx [c] from rfl,tx_list];simp) (ev_pos (by decide) (ev_bind0 hc ?_)))
  rw[w64 (a:=((Lib.countByte t c:Nat):Int)+1) (by omega) (by omega)]
  refine ev_k ?_
  simp only[Qax.j0]
  have hmn:mn (((Lib.countByte t c:Nat):Int)+1) (wrap64 (((tx t).size:Int)+1))=((Lib.countByte t c:Nat):Int)+1:=by
   rw[tx_size,w64 (by omega) (by omega)]
   unfold mn
   rw[if_neg (by omega)]
  rw[hmn,w64 (a:=((Lib.countByte t c:Nat):Int)+1-1) (by omega) (by omega),show(((Lib.countByte t c:Nat):Int)+1).toNat=Lib.countByte t c+1 by omega]
  refine ev_pos (by omega) (ev_pos (by omega) ?_)
  have:=loop (Lib.countByte t c) t [] rfl (by omega) (by simp;omega)
  simp only[List.map_nil,List.nil_append,List.length_nil]at this
  rw[show((0:Nat):Int)+((Lib.countByte t c:Nat):Int)=((Lib.countByte t c:Nat):Int)+1-1 by omega,show((0:Nat):Int)=0 from rfl]at this
  exact this
 unfold Qdl.f
 exact Ev.bind main (Ev.now _)
theorem i_dec {n:Int} (h0:0≤n) (h1:n<100):Qcj.f n=some (tx (dig n)):=by
 unfold Qcj.f Qbs.f
 rw[if_pos h0,if_pos h1,if_pos rfl]
 rfl
theorem s_dec {n:Int} (h0:0≤n) (h1:n<100):Ev (fun k=>Qbe.f k n) (tx (dig n)):=by
 have small:∀m:Int,0≤m→m<10→Ev (fun k=>Qbe.f k m) (tx (dig m)):=fun m m0 m1=>by
  refine ev_k ?_
  simp only[Qbe.f]
  refine ev_neg (by omega) (ev_pos m1 (ev_some ?_))
  rw[w64 (a:=48+m) (by omega) (by omega),dig_one m1]
  simp only[strOfNums,List.map_cons,List.map_nil,tx]
  rw[Int.emod_eq_of_lt (by omega) (by omega),show(48+m).toNat=48+m.toNat by omega]
 by_cases z:n<10
 ·exact small n h0 z
 ·have e1:Int.tdiv n 10=n/10:=Int.tdiv_eq_ediv_of_nonneg h0
  have e2:Int.tmod n 10=n % 10:=Int.tmod_eq_emod_of_nonneg h0
  have hs:=small (n/10) (by omega) (by omega)
  refine ev_k ?_
  simp only[Qbe.f,e1,e2]
  rw[w64 (a:=n/10) (by omega) (by omega),w64 (a:=48+n % 10) (by omega) (by omega)]
  refine ev_neg (by omega) (ev_neg z (Ev.bind hs ?_))
  simp only[Option.bind_some]
  have es:strOfNums [(48+n % 10) % 256]=tx [UInt8.ofNat (48+n.toNat % 10)]:=by
   simp only[strOfNums,List.map_cons,List.map_nil,tx]
   rw[Int.emod_eq_of_lt (by omega) (by omega),show(48+n % 10).toNat=48+n.toNat % 10 by omega]
  have ed:dig n=dig (n/10)++[UInt8.ofNat (48+n.toNat % 10)]:=by
   rw[dig_two (by omega) h1,dig_one (by omega),show(n/10).toNat=n.toNat/10 by omega]
   rfl
  rw[es,tx_app,← ed]
  refine ev_pos ?_ (Ev.now _)
  rw[tx_size,tx_size]
  have:=dig_len (n:=n/10) (by omega)
  simp
  omega
def PairsIn (n:Int) (E:List (List Int)):Prop:=∀e ∈ E,∃a b,e=[a,b]∧0≤a∧a<b∧b<n
theorem at_pre {pre F:List (List Int)} {e:List Int}:rd_L4 (pre++e :: F) (pre.length:Int)=e:=by simp[rd_L4,List.getD_eq_getElem?_getD]
theorem et_len2 {n:Int} (n2:n≤62) {E:List (List Int)} (h:PairsIn n E):∀x ∈ E.map et,x.length≤5:=by
 intro x hx
 obtain⟨e,he,rfl⟩:=List.mem_map.1 hx
 obtain⟨a,b,rfl,hab⟩:=h e he
 show(dig a++45 :: dig b).length≤5
 have:=dig_len (n:=a) (by omega)
 have:=dig_len (n:=b) (by omega)
 simp
 omega
theorem join_snoc (xs:List (List UInt8)) (y:List UInt8) (h:xs≠[]):Lib.join (xs++[y]) [44]=Lib.join xs [44]++44 :: y:=by
 cases xs with
 |nil=>exact absurd rfl h
 |cons x r=>
  rw[List.cons_append,Lib.join_cons,Lib.join_cons]
  simp[Lib.joinTail]
theorem i_pairs {n:Int} (n2:n≤62) {E:List (List Int)} (h:PairsIn n E) (hE:E.length≤4000):Ev (fun k=>Qbd.f k E ⟨#[45]⟩) (tx (Lib.join (E.map et) [44])):=by
 have loop:∀(F pre:List (List Int)),pre++F=E→Ev (fun k=>Qbd.l0 k ⟨#[45]⟩ ((pre.map et).map tx) E (E.length:Int) (pre.length:Int)) (tx (Lib.join (E.map et) [44])):=by
  intro F
  induction F with
  |nil=>
   intro pre hp
   rw[List.append_nil]at hp
   subst hp
   refine ev_k ?_
   simp only[Qbd.l0]
   refine ev_neg (by omega) (ev_bind0 (a:=(tx (Lib.join (pre.map et) [44]),(pre.map et).map tx)) ?_ (Ev.now _))
   have jl:=join_len (pre.map et) 5 44 (et_len2 n2 h)
   have e1:((pre.map et).map tx).map (fun x:ByteArray=>x.data.toList)=pre.map et:=by
    rw[List.map_map]
    refine(List.map_congr_left fun x _=>?_).trans (List.map_id _)
    exact tx_data x
   rw[List.length_map]at jl
   unfold Qbz.f
   rw[if_pos (by simp;omega),e1]
   show(if(Lib.join (pre.map et) [44]).length<1000000 then some (tx (Lib.join (pre.map et) [44]),(pre.map et).map tx)else none)=_
   rw[if_pos (by omega)]
  |cons e F ih=>
   intro pre hp
   have hlt:pre.length<E.length:=by rw[← hp];simp
   have he:rd_L4 E (pre.length:Int)=e:=by rw[← hp];exact at_pre
   obtain⟨a,b,rfl,hab⟩:=h e (by rw[← hp];simp)
   have:=ih (pre++[[a,b]]) (by rw[← hp];simp)
   have r0:rd [a,b] 0=a:=rfl
   have r1:rd [a,b] 1=b:=rfl
   have la:=dig_len (n:=a) (by omega)
   have lb:=dig_len (n:=b) (by omega)
   have one:(⟨#[45]⟩:ByteArray)=tx [45]:=rfl
   rw[show(((pre++[[a,b]]).length:Nat):Int)=(pre.length:Int)+1 by simp]at this
   refine ev_k ?_
   simp only[Qbd.l0,he,r0,r1]
   rw[w64 (a:=(pre.length:Int)+1) (by omega) (by omega)]
   refine ev_pos (by omega) (ev_pos (by omega) (ev_pos (by omega) (ev_pos (by simp) (ev_bind0 (i_dec (n:=a) (by omega) (by omega)) (ev_pos ?_ (ev_pos (by simp) (ev_bind0 (i_dec (n:=b) (by omega) (by omega)) (ev_pos ?_ (ev_pos ?_ ?_)))))))))
   ·rw[tx_size]
    have:(⟨#[45]⟩:ByteArray).size=1:=rfl
    omega
   ·rw[one,tx_app,tx_size,tx_size]
    simp
    omega
   ·simp
    omega
   ·rw[one,tx_app,tx_app,← one]
    simpa[et,r0,r1] using this
 exact loop E [] rfl
theorem i_gtext_of {n:Int} {l:List Int} (h:rows n l):Ev (fun k=>Qbj.f k n l) (tx (gtx n (edgesTo l n.toNat))):=by
 have n1:=h.1
 have n2:=h.2.1
 have hl:=edgesTo_length l n.toNat
 have ok:=edges_ok h
 have hm:=okE_mem ok
 have gl:=gtx_len n1 n2 ok
 have dl:=dig_len (n:=n) (by omega)
 have one:(⟨#[58]⟩:ByteArray)=tx [58]:=rfl
 unfold Qbj.f
 refine ev_bind0 (i_dec (n:=n) (by omega) (by omega)) (ev_pos (by rw[tx_size];omega) (Ev.bind (i_edges h) (Ev.bind (i_pairs n2 hm (by omega)) ?_)))
 rw[one,tx_app,tx_app]
 refine ev_pos (by rw[tx_size,tx_size];simp;omega) (ev_some ?_)
 simp[gtx]
theorem s_edges_any {n:Int} {l:List Int} (n1:1≤n) (n2:n≤62) (hl:(l.length:Int)=n):∃E,PairsIn n E∧E.length≤4000∧Ev (fun k=>Qaz.f k n l) E:=by
 have loop:∀(d:Nat) (v:Int) (acc:List (List Int)),0≤v→n-v=d→(acc.length:Int)≤62*v→PairsIn n acc→∃E,PairsIn n E∧E.length≤4000∧Ev (fun k=>Qaz.l0 k acc v n l) E:=by
  intro d
  induction d with
  |zero=>
   intro v acc v0 hd ha hp
   refine⟨acc,hp,by omega,ev_k ?_⟩
   simp only[Qaz.l0]
   exact ev_neg (by omega) (Ev.now _)
  |succ d ih=>
   intro v acc v0 hd ha hp
   have inner:∀(e:Nat) (w:Int) (acc:List (List Int)),v<w→n-w=e→(acc.length:Int)+e≤62*(v+1)→PairsIn n acc→∃E,PairsIn n E∧E.length≤4000∧Ev (fun k=>Qaz.l1 k acc v w n l) E:=by
    intro e
    induction e with
    |zero=>
     intro w acc hw he ha hp
     obtain⟨E,h1,h2,h3⟩:=ih (v+1) acc (by omega) (by omega) (by omega) hp
     refine⟨E,h1,h2,ev_k ?_⟩
     simp only[Qaz.l1]
     rw[w64 (a:=v+1) (by omega) (by omega)]
     exact ev_neg (by omega) h3
    |succ e ihe=>
     intro w acc hw he ha hp
     have hh:=s_has n l v w v0 (by omega) (by omega) (by omega)
     by_cases z:tb (rd l v) w=true
     ·obtain⟨E,h1,h2,h3⟩:=ihe (w+1) (acc++[[v,w]]) (by omega) (by omega) (by simp;omega) (fun x hx=>by
       rcases List.mem_append.1 hx with y|y
       ·exact hp x y
       ·exact⟨v,w,List.mem_singleton.1 y,by omega⟩)
      refine⟨E,h1,h2,ev_k ?_⟩
      simp only[Qaz.l1,hh,Option.bind_some]
      rw[w64 (a:=w+1) (by omega) (by omega)]
      exact ev_pos (by omega) (ev_pos z (ev_pos (by omega) h3))
     ·obtain⟨E,h1,h2,h3⟩:=ihe (w+1) acc (by omega) (by omega) (by omega) hp
      refine⟨E,h1,h2,ev_k ?_⟩
      simp only[Qaz.l1,hh,Option.bind_some]
      rw[w64 (a:=w+1) (by omega) (by omega)]
      exact ev_pos (by omega) (ev_neg z h3)
   obtain⟨E,h1,h2,h3⟩:=inner (n-(v+1)).toNat (v+1) acc (by omega) (by omega) (by omega) hp
   refine⟨E,h1,h2,ev_k ?_⟩
   simp only[Qaz.l0]
   rw[w64 (a:=v+1) (by omega) (by omega)]
   exact ev_pos (by omega) h3
 obtain⟨E,h1,h2,h3⟩:=loop n.toNat 0 [] (by omega) (by omega) (by simp) (by intro e he;simp at he)
 refine⟨E,h1,h2,?_⟩
 unfold Qaz.f
 exact h3
theorem s_gtext_of {n:Int} {l:List Int} (n1:1≤n) (n2:n≤62) {E:List (List Int)} (h:PairsIn n E) (hE:E.length≤4000) (he:Ev (fun k=>Qaz.f k n l) E):Ev (fun k=>Qaq.f k n l) (tx (gtx n E)):=by
 have dl:=dig_len (n:=n) (by omega)
 have loop:∀(F pre:List (List Int)),pre++F=E→Ev (fun k=>Qaq.l0 k (tx (gtx n pre)) E (pre.length:Int)) (tx (gtx n E)):=by
  intro F
  induction F with
  |nil=>
   intro pre hp
   rw[List.append_nil]at hp
   subst hp
   refine ev_k ?_
   simp only[Qaq.l0]
   exact ev_neg (by omega) (Ev.now _)
  |cons e F ih=>
   intro pre hp
   have hlt:pre.length<E.length:=by rw[← hp];simp
   have he:rd_L4 E (pre.length:Int)=e:=by rw[← hp];exact at_pre
   obtain⟨a,b,rfl,hab⟩:=h e (by rw[← hp];simp)
   have:=ih (pre++[[a,b]]) (by rw[← hp];simp)
   have r0:rd [a,b] 0=a:=rfl
   have r1:rd [a,b] 1=b:=rfl
   have la:=dig_len (n:=a) (by omega)
   have lb:=dig_len (n:=b) (by omega)
   have jl:=join_len (pre.map et) 5 44 (et_len2 n2 (fun x hx=>h x (by rw[← hp];simp[hx])))
   rw[List.length_map]at jl
   have gl:(gtx n pre).length≤30000:=by
    simp only[gtx,List.length_append,List.length_cons]
    omega
   have c45:(⟨#[45]⟩:ByteArray)=tx [45]:=rfl
   have c44:(⟨#[44]⟩:ByteArray)=tx [44]:=rfl
   rw[show(((pre++[[a,b]]).length:Nat):Int)=(pre.length:Int)+1 by simp]at this
   refine ev_k ?_
   simp only[Qaq.l0,he,r0,r1]
   rw[w64 (a:=(pre.length:Int)+1) (by omega) (by omega)]
   refine ev_pos (by omega) ?_
   by_cases z:pre=[]
   ·subst z
    refine ev_neg (by simp) (ev_pos (by simp) (ev_pos (by simp) (Ev.bind (s_dec (n:=a) (by omega) (by omega)) ?_)))
    simp only[c45,tx_app]
    refine ev_pos ?_ (ev_pos ?_ (ev_pos (by simp) (Ev.bind (s_dec (n:=b) (by omega) (by omega)) (ev_pos ?_ ?_))))
    ·rw[tx_size,tx_size]
     omega
    ·rw[tx_size]
     simp
     omega
    ·rw[tx_size,tx_size]
     simp
     omega
    ·rw[tx_app]
     have e:gtx n ([]++[[a,b]])=gtx n []++dig a++[45]++dig b:=by simp[gtx,Lib.join_one,Lib.join_nil,et,r0,r1]
     rw[e]at this
     exact this
   ·have hl:0<pre.length:=by
     cases pre with
     |nil=>exact absurd rfl z
     |cons _ _=>simp
    refine ev_pos (by omega) (ev_pos ?_ (ev_pos (by omega) (ev_pos (by simp) (Ev.bind (s_dec (n:=a) (by omega) (by omega)) ?_))))
    ·rw[tx_size]
     omega
    simp only[c45,c44,tx_app]
    refine ev_pos ?_ (ev_pos ?_ (ev_pos (by simp) (Ev.bind (s_dec (n:=b) (by omega) (by omega)) (ev_pos ?_ ?_))))
    ·rw[tx_size,tx_size]
     simp
     omega
    ·rw[tx_size]
     simp
     omega
    ·rw[tx_size,tx_size]
     simp
     omega
    ·rw[tx_app]
     have e:gtx n (pre++[[a,b]])=gtx n pre++[44]++dig a++[45]++dig b:=by
      simp only[gtx,List.map_append,List.map_cons,List.map_nil]
      rw[join_snoc _ _ (by simpa using z)]
      simp[et,r0,r1]
     rw[e]at this
     exact this
 have c58:(⟨#[58]⟩:ByteArray)=tx [58]:=rfl
 unfold Qaq.f
 refine Ev.bind (s_dec (n:=n) (by omega) (by omega)) (ev_pos (by rw[tx_size];omega) (Ev.bind he ?_))
 rw[c58,tx_app]
 exact loop E [] rfl
theorem text_both (n:Int) (l:List Int):∃t c,Ev (fun k=>Qdk.f k n l) (tx t,c)∧Ev (fun k=>Qcq.f k n l) (tx t,c)∧(isG n l→t=gtx n (edgesTo l n.toNat)∧c=0):=by
 unfold Qdk.f Qcq.f
 by_cases hg:isG n l
 ·have hl:=edgesTo_length l n.toNat
  have n2:=hg.1.2.1
  have n1:=hg.1.1
  exact⟨_,0,Ev.bind ((s_is n l).yes hg) (ev_pos rfl (Ev.bind (s_gtext_of n1 n2 (okE_mem (edges_ok hg.1)) (by omega) (s_edges hg.1)) (Ev.now _))),Ev.bind ((i_is n l).yes hg) (ev_pos rfl (Ev.bind (i_gtext_of hg.1) (Ev.now _))),fun _=>⟨rfl,rfl⟩⟩
 ·exact⟨[],1,Ev.bind ((s_is n l).no hg) (ev_neg (by simp) (Ev.now _)),Ev.bind ((i_is n l).no hg) (ev_neg (by simp) (Ev.now _)),fun q=>absurd q hg⟩
def IsText (t:List UInt8):Prop:=∃n E,(1≤n∧n≤62)∧okE n (-1) E∧t=gtx n E
theorem put_same (n:Int) (m:List Int) (v:Int):Qbb.f n m v v=some m:=by
 unfold Qbb.f
 rw[if_pos rfl]
theorem at_tx (pre q:List (List UInt8)) (p:List UInt8):rdOf ByteArray.empty ((pre++p :: q).map tx) (pre.length:Int)=tx p:=by simp[rdOf,List.getD_eq_getElem?_getD]
theorem et_key {n:Int} (n2:n≤62) {b4:Int} {p:List UInt8} {q:List (List UInt8)} {E:List (List Int)} (h:p :: q=E.map et) (hE:okE n b4 E):∃a b E',E=[a,b] :: E'∧(0≤a∧a<b∧b<n)∧b4<a*n+b∧sp 45 p=[dig a,dig b]∧num (dig a)=some a∧num (dig b)=some b∧q=E'.map et∧okE n (a*n+b) E':=by
 cases E with
 |nil=>simp at h
 |cons e E'=>
  obtain⟨a,b,rfl,hab,hk,h'⟩:=hE
  simp only[List.map_cons,List.cons.injEq]at h
  refine⟨a,b,E',rfl,hab,hk,?_,num_dig (by omega) (by omega),num_dig (by omega) (by omega),h.2,h'⟩
  rw[h.1]
  exact et_sp (by omega) (by omega)
theorem s_parts {n:Int} (n1:1≤n) (n2:n≤62) (ps:List (List UInt8)) (hps:ps.length<8796093022210) (hsz:∀p ∈ ps,p.length<8796093022208):∀(q pre:List (List UInt8)) (b4:Int) (m:List Int),pre++q=ps→(m.length:Int)=n→∃r,Ev (fun k=>Qbl.l0 k (ps.map tx) b4 (pre.length:Int) n m) r∧((∃E,q=E.map et∧okE n b4 E∧r=(n,puts m E,true))∨((¬∃E,q=E.map et∧okE n b4 E)∧r=(0,[],false))):=by
 intro q
 induction q with
 |nil=>
  intro pre b4 m hp hm
  rw[List.append_nil]at hp
  subst hp
  refine⟨(n,m,true),ev_k ?_,.inl ⟨[],rfl,trivial,rfl⟩⟩
  simp only[Qbl.l0]
  exact ev_neg (by simp) (Ev.now _)
 |cons p q ih=>
  intro pre b4 m hp hm
  have hlt:pre.length<ps.length:=by rw[← hp];simp
  have hat:rdOf ByteArray.empty (ps.map tx) (pre.length:Int)=tx p:=by rw[← hp];exact at_tx pre q p
  have hs:=s_split p 45 (hsz p (by rw[← hp];simp))
  have c45:(((45:UInt8).toNat:Nat):Int)=45:=rfl
  rw[c45]at hs
  have w1:wrap64 ((pre.length:Int)+1)=(pre.length:Int)+1:=w64 (by omega) (by omega)
  have wn:wrap64 (n-1)=n-1:=w64 (by omega) (by omega)
  by_cases h2:(sp 45 p).length=2
  ·obtain⟨u,v,huv⟩:∃u v,sp 45 p=[u,v]:=by
    match sp 45 p,h2 with
    |[u,v],_=>exact⟨u,v,rfl⟩
   rw[huv]at hs
   have g0:rdOf ByteArray.empty (([u,v]:List (List UInt8)).map tx) 0=tx u:=rfl
   have g1:rdOf ByteArray.empty (([u,v]:List (List UInt8)).map tx) 1=tx v:=rfl
   have nu:=s_num u
   have nv:=s_num v
   have main:∀A B:Int,Ev (fun k=>Qac.f k (tx u)) A→Ev (fun k=>Qac.f k (tx v)) B→((0≤A→num u=some A)∧(0≤B→num v=some B))→(∀a,num u=some a→a=A)→(∀b,num v=some b→b=B)→∃r,Ev (fun k=>Qbl.l0 k (ps.map tx) b4 (pre.length:Int) n m) r∧((∃E,p :: q=E.map et∧okE n b4 E∧r=(n,puts m E,true))∨((¬∃E,p :: q=E.map et∧okE n b4 E)∧r=(0,[],false))):=by
    intro A B hA hB hy hnA hnB
    have key:(∃E,p :: q=E.map et∧okE n b4 E)→(0≤A∧A<B∧B<n)∧b4<A*n+B∧∃E',q=E'.map et∧okE n (A*n+B) E':=by
     rintro⟨E,e1,e2⟩
     obtain⟨a,b,E',rfl,hab,hk,hsp,na,nb,hq,hE'⟩:=et_key n2 e1 e2
     rw[huv]at hsp
     simp only[List.cons.injEq,and_true]at hsp
     rw[← hsp.1]at na
     rw[← hsp.2]at nb
     obtain rfl:=hnA a na
     obtain rfl:=hnB b nb
     exact⟨hab,hk,E',hq,hE'⟩
    have fail:¬((0≤A∧A<B∧B<n)∧b4<A*n+B)→¬∃E,p :: q=E.map et∧okE n b4 E:=fun z y=>z ⟨(key y).1,(key y).2.1⟩
    by_cases hA1:0≤A∧A≤n-1
    ·have wA:wrap64 (A+1)=A+1:=w64 (by omega) (by omega)
     by_cases hB1:A+1≤B∧B≤n-1
     ·have hk:=key_up (n:=n) (a:=A) (b:=B) hA1.1 (by omega) (by omega)
      have hnn:n*n≤62*62:=Int.mul_le_mul n2 n2 (by omega) (by omega)
      have hAn:0≤A*n:=Int.mul_nonneg hA1.1 (by omega)
      have wk:wrap64 (wrap64 (A*n)+B)=A*n+B:=by
       rw[w64 (a:=A*n) (by omega) (by omega),w64 (by omega) (by omega)]
      by_cases hb4:A*n+B≤b4
      ·refine⟨(0,[],false),ev_k ?_,.inr ⟨fail (by omega),rfl⟩⟩
       simp only[Qbl.l0,hat]
       refine ev_pos (by simp;omega) (ev_pos (by omega) (Ev.bind hs ?_))
       simp only[g0,g1,s_in,Option.bind_some,wn]
       refine ev_pos (by simp) (ev_pos (by simp) (Ev.bind hA (ev_pos (by simp) (Ev.bind hB (ev_pos (decide_eq_true hA1) ?_)))))
       rw[wA,wk]
       exact ev_pos (decide_eq_true hB1) (ev_pos hb4 (Ev.now _))
      ·have hj:=joined_len m A B
       obtain⟨r,hE,hr⟩:=ih (pre++[p]) (A*n+B) (joined m A B) (by rw[← hp];simp) (by omega)
       rw[show(((pre++[p]).length:Nat):Int)=(pre.length:Int)+1 by simp]at hE
       have hpe:p=et [A,B]:=sp_et huv (hy.1 hA1.1) (hy.2 (by omega)) (by omega) (by omega)
       refine⟨r,ev_k ?_,?_⟩
       ·simp only[Qbl.l0,hat]
        refine ev_pos (by simp;omega) (ev_pos (by omega) (Ev.bind hs ?_))
        simp only[g0,g1,s_in,Option.bind_some,wn]
        refine ev_pos (by simp) (ev_pos (by simp) (Ev.bind hA (ev_pos (by simp) (Ev.bind hB (ev_pos (decide_eq_true hA1) ?_)))))
        rw[wA,wk,w1]
        exact ev_pos (decide_eq_true hB1) (ev_neg hb4 (ev_bind0 (s_put n m A B hA1.1 (by omega) (by omega) (by omega) (by omega)) hE))
       ·rcases hr with⟨E,e1,e2,rfl⟩|⟨e1,rfl⟩
        ·refine .inl ⟨[A,B] :: E,?_,⟨A,B,rfl,by omega,by omega,e2⟩,rfl⟩
         rw[List.map_cons,← hpe,e1]
        ·exact .inr ⟨fun z=>e1 (key z).2.2,rfl⟩
     ·refine⟨(0,[],false),ev_k ?_,.inr ⟨fail (by omega),rfl⟩⟩
      simp only[Qbl.l0,hat]
      refine ev_pos (by simp;omega) (ev_pos (by omega) (Ev.bind hs ?_))
      simp only[g0,g1,s_in,Option.bind_some,wn]
      refine ev_pos (by simp) (ev_pos (by simp) (Ev.bind hA (ev_pos (by simp) (Ev.bind hB (ev_pos (decide_eq_true hA1) ?_)))))
      rw[wA]
      exact ev_neg (by simpa using hB1) (Ev.now _)
    ·refine⟨(0,[],false),ev_k ?_,.inr ⟨fail (by omega),rfl⟩⟩
     simp only[Qbl.l0,hat]
     refine ev_pos (by simp;omega) (ev_pos (by omega) (Ev.bind hs ?_))
     simp only[g0,g1,s_in,Option.bind_some,wn]
     exact ev_pos (by simp) (ev_pos (by simp) (Ev.bind hA (ev_pos (by simp) (Ev.bind hB (ev_neg (by simpa using hA1) (Ev.now _))))))
   refine main _ _ nu nv ⟨?_,?_⟩ ?_ ?_
   ·cases num u<;>simp
   ·cases num v<;>simp
   ·intro a ha;rw[ha]
   ·intro b hb;rw[hb]
  ·refine⟨(0,[],false),ev_k ?_,.inr ⟨?_,rfl⟩⟩
   ·simp only[Qbl.l0,hat]
    exact ev_pos (by simp;omega) (ev_pos (by omega) (Ev.bind hs (ev_neg (by rw[List.length_map];omega) (Ev.now _))))
   ·rintro⟨E,e1,e2⟩
    obtain⟨a,b,E',rfl,hab,hk,hsp,_⟩:=et_key n2 e1 e2
    exact h2 (by rw[hsp];rfl)
theorem sp_small (c:UInt8) (t:List UInt8):(sp c t).length≤t.length+1∧∀p ∈ sp c t,p.length≤t.length:=by
 induction t with
 |nil=>simp[sp]
 |cons x t ih=>
  obtain⟨h,u,e⟩:=sp_ne c t
  simp only[sp]
  rw[e]at ih ⊢
  obtain⟨i1,i2⟩:=ih
  split
  ·refine⟨by simp at i1 ⊢;omega,fun p hp=>?_⟩
   rcases List.mem_cons.1 hp with rfl|hp
   ·simp
   ·have:=i2 p hp
    simp
    omega
  ·refine⟨by simp at i1 ⊢;omega,fun p hp=>?_⟩
   rcases List.mem_cons.1 hp with rfl|hp
   ·have:=i2 h (List.mem_cons_self ..)
    simp
    omega
   ·have:=i2 p (List.mem_cons_of_mem _ hp)
    simp
    omega
theorem s_read (t:List UInt8) (ht:t.length<8796093022208):∃r,Ev (fun k=>Qbl.f k (tx t)) r∧((∃n E,(1≤n∧n≤62)∧okE n (-1) E∧t=gtx n E∧r=(n,puts (List.replicate n.toNat 0) E,true))∨(¬IsText t∧r=(0,[],false))):=by
 have hs:=s_split t 58 ht
 rw[show(((58:UInt8).toNat:Nat):Int)=58 from rfl]at hs
 unfold Qbl.f
 have bad:∀L:List ByteArray,Ev (fun k=>Qbl.j0 k L true) (0,[],false):=fun L=>by
  refine ev_k ?_
  simp only[Qbl.j0]
  exact ev_pos trivial (Ev.now _)
 by_cases h2:(sp 58 t).length=2
 ·obtain⟨x,y,hxy⟩:∃x y,sp 58 t=[x,y]:=by
   match sp 58 t,h2 with
   |[x,y],_=>exact⟨x,y,rfl⟩
  have hy:=(sp_small 58 t).2 y (by rw[hxy];simp)
  rw[hxy]at hs
  have g0:rdOf ByteArray.empty (([x,y]:List (List UInt8)).map tx) 0=tx x:=rfl
  have g1:rdOf ByteArray.empty (([x,y]:List (List UInt8)).map tx) 1=tx y:=rfl
  have main:∀A:Int,Ev (fun k=>Qac.f k (tx x)) A→(0≤A→num x=some A)→(∀a,num x=some a→a=A)→∃r,Ev (fun k=>(Qao.f k (tx t) 58).bind fun t977=>if(t977.length:Int)=2 then(if 0<(t977.length:Int)then((Qac.f k (rdOf ByteArray.empty t977 0)).bind fun t981=>((Qaj.f t981 1 62).bind fun t982=>(Qbl.j0 k t977 (!t982))))else none)else(Qbl.j0 k t977 true)) r∧((∃n E,(1≤n∧n≤62)∧okE n (-1) E∧t=gtx n E∧r=(n,puts (List.replicate n.toNat 0) E,true))∨(¬IsText t∧r=(0,[],false))):=by
   intro A hA hyes hn
   have key:∀n E,(1≤n∧n≤62)→okE n (-1) E→t=gtx n E→A=n∧y=Lib.join (E.map et) [44]:=fun n E hn' hE e=>by
    have:=head_of hn'.2 hE
    rw[← e,hxy]at this
    simp only[List.cons.injEq,and_true]at this
    refine⟨(hn n ?_).symm,this.2⟩
    rw[this.1]
    exact num_dig (by omega) (by omega)
   by_cases hA1:1≤A∧A≤62
   ·have et:=of_head hxy (hyes (by omega)) (by omega)
    have hj:∀r,Ev (fun k=>Qbl.j0 k (([x,y]:List (List UInt8)).map tx) false) r→Ev (fun k=>(Qao.f k (tx t) 58).bind fun t977=>if(t977.length:Int)=2 then(if 0<(t977.length:Int)then((Qac.f k (rdOf ByteArray.empty t977 0)).bind fun t981=>((Qaj.f t981 1 62).bind fun t982=>(Qbl.j0 k t977 (!t982))))else none)else(Qbl.j0 k t977 true)) r:=fun r hr=>by
     refine Ev.bind hs ?_
     simp only[g0,s_in,Option.bind_some]
     refine ev_pos (by simp) (ev_pos (by simp) (Ev.bind hA ?_))
     rw[decide_eq_true hA1]
     exact hr
    by_cases hy0:y=[]
    ·refine⟨(A,List.replicate A.toNat 0,true),hj _ (ev_k ?_),.inl ⟨A,[],hA1,trivial,?_,rfl⟩⟩
     ·simp only[Qbl.j0,g0,g1]
      refine ev_neg (by simp) (ev_pos (by simp) (Ev.bind hA (ev_bind0 (s_empty A (by omega) hA1.2) (ev_pos (by simp) (ev_pos (by rw[tx_list];exact hy0) (Ev.now _))))))
     ·rw[et,hy0]
      simp[gtx,Lib.join_nil]
    ·have hsm:=sp_small 44 y
     have hs2:=s_split y 44 (by omega)
     rw[show(((44:UInt8).toNat:Nat):Int)=44 from rfl]at hs2
     obtain⟨r,hE,hr⟩:=s_parts hA1.1 hA1.2 (sp 44 y) (by omega) (fun p hp=>by have:=hsm.2 p hp;omega) (sp 44 y) [] (-1) (List.replicate A.toNat 0) rfl (by simp;omega)
     refine⟨r,hj _ (ev_k ?_),?_⟩
     ·simp only[Qbl.j0,g0,g1]
      exact ev_neg (by simp) (ev_pos (by simp) (Ev.bind hA (ev_bind0 (s_empty A (by omega) hA1.2) (ev_pos (by simp) (ev_neg (by rw[tx_list];exact hy0) (Ev.bind hs2 hE))))))
     ·rcases hr with⟨E,e1,e2,rfl⟩|⟨e1,rfl⟩
      ·refine .inl ⟨A,E,hA1,e2,?_,rfl⟩
       rw[et]
       unfold gtx
       rw[← e1,join_sp]
      ·refine .inr ⟨?_,rfl⟩
       rintro⟨n,E,hn',hE',e⟩
       obtain⟨rfl,hyE⟩:=key n E hn' hE' e
       refine e1 ⟨E,?_,hE'⟩
       rw[hyE]
       exact parts_of hn'.2 hE' fun q=>hy0 (by rw[hyE,q];rfl)
   ·refine⟨(0,[],false),?_,.inr ⟨?_,rfl⟩⟩
    ·refine Ev.bind hs ?_
     simp only[g0,s_in,Option.bind_some]
     refine ev_pos (by simp) (ev_pos (by simp) (Ev.bind hA ?_))
     rw[decide_eq_false hA1]
     exact bad _
    ·rintro⟨n,E,hn',hE',e⟩
     obtain⟨rfl,_⟩:=key n E hn' hE' e
     exact hA1 hn'
  refine main _ (s_num x) ?_ ?_
  ·cases num x<;>simp
  ·intro a ha;rw[ha]
 ·refine⟨(0,[],false),Ev.bind hs (ev_neg (by rw[List.length_map];omega) (bad _)),.inr ⟨?_,rfl⟩⟩
  rintro⟨n,E,hn',hE',e⟩
  exact h2 (by rw[e,head_of hn'.2 hE'];rfl)
theorem tx_inj {a b:List UInt8} (h:(tx a).toList=(tx b).toList):a=b:=by
 rw[tx_list,tx_list]at h
 exact h
theorem i_num_some {u:List UInt8} {a:Int} (h:num u=some a):Ev (fun k=>Qav.f k (tx u)) (a,true):=by
 have:=i_num u
 rw[h]at this
 exact this
theorem i_num_none {u:List UInt8} (h:num u=none):Ev (fun k=>Qav.f k (tx u)) (0,false):=by
 have:=i_num u
 rw[h]at this
 exact this
theorem i_cut (t:List UInt8) (c:UInt8) (ht:t.length<9223372036854775807):∃a r b,Qcf.f (tx t) ⟨#[c]⟩=some (tx a,tx r,b)∧r.length≤t.length:=by
 rcases has_or c t with h|⟨a,r,rfl,h⟩
 ·exact⟨t,[],false,i_cut_no h,by simp⟩
 ·exact⟨a,r,true,i_cut_at h r ht,by simp;omega⟩
theorem i_no {t:List UInt8} (ht:t.length<9223372036854775807) (hno:¬IsText t):Ev (fun k=>Qaw.f k (tx t)) (0,[],6):=by
 have fin:∀n m,(1≤n∧n≤62)→graphy n m→∃s,Ev (fun k=>Qbj.f k n m) (tx s)∧¬(tx s).toList=(tx t).toList:=fun n m hn hg=>by
  have hr:=(hg.isG hn.1 hn.2).1
  refine⟨_,i_gtext_of hr,fun q=>hno ⟨n,_,hn,edges_ok hr,(tx_inj q).symm⟩⟩
 have bad:∀y n,Ev (fun k=>Qaw.j0 k (tx t) y n true) (0,[],6):=fun y n=>by
  refine ev_k ?_
  simp only[Qaw.j0]
  exact ev_pos trivial (Ev.now _)
 obtain⟨x,y,b,hcut,hyl⟩:=i_cut t 58 ht
 unfold Qaw.f
 refine ev_bind0 hcut ?_
 cases hn:num x with
 |none=>exact Ev.bind (i_num_none hn) (ev_neg (by simp) (bad _ _))
 |some n=>
  refine Ev.bind (i_num_some hn) (ev_pos rfl ?_)
  by_cases h1:n<1
  ·exact ev_pos h1 (bad _ _)
  refine ev_neg h1 ?_
  by_cases h2:n>62
  ·exact ev_pos h2 (bad _ _)
  refine ev_neg h2 ?_
  by_cases h3:((tx t).size:Int)>24000
  ·rw[decide_eq_true h3]
   exact bad _ _
  rw[decide_eq_false h3]
  rw[tx_size]at h3
  refine ev_k ?_
  simp only[Qaw.j0]
  refine ev_neg (by simp) (ev_bind0 (i_empty n (by omega) (by omega)) ?_)
  by_cases hy:y=[]
  ·obtain⟨s,hs,ne⟩:=fin n _ (by omega) (graphy_zero n (by omega))
   exact ev_pos (by rw[tx_list];exact hy) (Ev.bind hs (ev_neg ne (Ev.now _)))
  refine ev_neg (by rw[tx_list];exact hy) (Ev.bind (i_split y 44 (by omega)) ?_)
  have hsm:=sp_small 44 y
  generalize hps:sp 44 y=ps at hsm
  have loop:∀(q pre:List (List UInt8)) (m:List Int),pre++q=ps→graphy n m→Ev (fun k=>Qaw.l0 k (tx t) n (ps.map tx) ((ps.map tx).length:Int) (pre.length:Int) n m) (0,[],6):=by
   intro q
   induction q with
   |nil=>
    intro pre m hp hg
    rw[List.append_nil]at hp
    subst hp
    obtain⟨s,hs,ne⟩:=fin n m (by omega) hg
    refine ev_k ?_
    simp only[Qaw.l0]
    exact ev_neg (by simp) (Ev.bind hs (ev_neg ne (Ev.now _)))
   |cons p q ih=>
    intro pre m hp hg
    have hm:=hg.1.1
    have hlt:pre.length<ps.length:=by rw[← hp];simp
    have hat:rdOf ByteArray.empty (ps.map tx) (pre.length:Int)=tx p:=by rw[← hp];exact at_tx pre q p
    have hpl:=hsm.2 p (by rw[← hp];simp)
    obtain⟨u,v,b',hc,_⟩:=i_cut p 45 (by omega)
    have w1:wrap64 ((pre.length:Int)+1)=(pre.length:Int)+1:=w64 (by omega) (by omega)
    refine ev_k ?_
    simp only[Qaw.l0,hat,w1]
    refine ev_pos (by simp;omega) (ev_pos (by omega) (ev_pos (by simp;omega) (ev_bind0 hc ?_)))
    cases hu:num u with
    |none=>
     cases hv:num v with
     |none=>exact Ev.bind (i_num_none hu) (Ev.bind (i_num_none hv) (ev_neg (by simp) (Ev.now _)))
     |some c=>exact Ev.bind (i_num_none hu) (Ev.bind (i_num_some hv) (ev_neg (by simp) (Ev.now _)))
    |some a=>
     cases hv:num v with
     |none=>exact Ev.bind (i_num_some hu) (Ev.bind (i_num_none hv) (ev_pos rfl (ev_neg (by simp) (Ev.now _))))
     |some c=>
      have a0:=num_low hu
      have c0:=num_low hv
      refine Ev.bind (i_num_some hu) (Ev.bind (i_num_some hv) (ev_pos rfl (ev_pos rfl ?_)))
      by_cases ha:a≥n
      ·exact ev_pos ha (Ev.now _)
      by_cases hc':c≥n
      ·exact ev_neg ha (ev_pos hc' (Ev.now _))
      refine ev_neg ha (ev_neg hc' ?_)
      by_cases hac:a=c
      ·subst hac
       have:=ih (pre++[p]) m (by rw[← hp];simp) hg
       rw[show(((pre++[p]).length:Nat):Int)=(pre.length:Int)+1 by simp]at this
       exact ev_bind0 (put_same n m a) this
      ·have:=ih (pre++[p]) (joined m a c) (by rw[← hp];simp) (hg.joined (by omega) a0 (by omega) c0 (by omega) hac)
       rw[show(((pre++[p]).length:Nat):Int)=(pre.length:Int)+1 by simp]at this
       exact ev_bind0 (i_put n m a c a0 (by omega) c0 (by omega) hac) this
  exact loop ps [] _ rfl (graphy_zero n (by omega))
theorem i_yes {n:Int} (n1:1≤n) (n2:n≤62) {E:List (List Int)} (hE:okE n (-1) E):Ev (fun k=>Qaw.f k (tx (gtx n E))) (n,puts (List.replicate n.toNat 0) E,0):=by
 have gl:=gtx_len n1 n2 hE
 have hm:=okE_mem hE
 have hg:graphy n (puts (List.replicate n.toNat 0) E):=(graphy_zero n (by omega)).puts n2 hm
 have fin:Ev (fun k=>Qbj.f k n (puts (List.replicate n.toNat 0) E)) (tx (gtx n E)):=by
  have:=i_gtext_of (hg.isG n1 n2).1
  rw[edges_puts n1 n2 hE]at this
  exact this
 have hcut:Qcf.f (tx (gtx n E)) ⟨#[58]⟩=some (tx (dig n),tx (Lib.join (E.map et) [44]),true):=i_cut_at (dig_not (by omega) (by decide)) _ (by
  have:=gl.2.1
  unfold gtx at this
  omega)
 unfold Qaw.f
 refine ev_bind0 hcut (Ev.bind (i_num_some (num_dig (by omega) (by omega))) (ev_pos rfl (ev_neg (by omega) (ev_neg (by omega) ?_))))
 rw[decide_eq_false (by rw[tx_size];omega)]
 refine ev_k ?_
 simp only[Qaw.j0]
 refine ev_neg (by simp) (ev_bind0 (i_empty n (by omega) n2) ?_)
 by_cases he:E=[]
 ·subst he
  exact ev_pos (by rw[tx_list];rfl) (Ev.bind fin (ev_pos rfl (Ev.now _)))
 ·have hsp:=i_split (Lib.join (E.map et) [44]) 44 (by omega)
  rw[parts_of n2 hE he]at hsp
  refine ev_neg (by rw[tx_list];exact join_ne hE he) (Ev.bind hsp ?_)
  have loop:∀(F pre:List (List Int)) (m:List Int),pre++F=E→(m.length:Int)=n→puts m F=puts (List.replicate n.toNat 0) E→Ev (fun k=>Qaw.l0 k (tx (gtx n E)) n ((E.map et).map tx) (((E.map et).map tx).length:Int) (pre.length:Int) n m) (n,puts (List.replicate n.toNat 0) E,0):=by
   intro F
   induction F with
   |nil=>
    intro pre m hp hml hpm
    rw[List.append_nil]at hp
    subst hp
    have:m=puts (List.replicate n.toNat 0) pre:=hpm
    subst this
    refine ev_k ?_
    simp only[Qaw.l0]
    exact ev_neg (by simp) (Ev.bind fin (ev_pos rfl (Ev.now _)))
   |cons e F ih=>
    intro pre m hp hml hpm
    obtain⟨a,b,rfl,hab⟩:=hm e (by rw[← hp];simp)
    have hlt:pre.length<E.length:=by rw[← hp];simp
    have hat:rdOf ByteArray.empty ((E.map et).map tx) (pre.length:Int)=tx (et [a,b]):=by
     have:=at_tx (pre.map et) (F.map et) (et [a,b])
     rw[List.length_map]at this
     rw[← hp,List.map_append,List.map_cons]
     exact this
    have hc:Qcf.f (tx (et [a,b])) ⟨#[45]⟩=some (tx (dig a),tx (dig b),true):=by
     have la:=dig_len (n:=a) (by omega)
     have lb:=dig_len (n:=b) (by omega)
     show Qcf.f (tx (dig a++45 :: dig b)) _=_
     exact i_cut_at (dig_not (by omega) (by decide)) (dig b) (by simp;omega)
    have hj:=joined_len m a b
    have:=ih (pre++[[a,b]]) (joined m a b) (by rw[← hp];simp) (by omega) hpm
    rw[show(((pre++[[a,b]]).length:Nat):Int)=(pre.length:Int)+1 by simp]at this
    have w1:wrap64 ((pre.length:Int)+1)=(pre.length:Int)+1:=w64 (by omega) (by omega)
    refine ev_k ?_
    simp only[Qaw.l0,hat,w1]
    exact ev_pos (by simp;omega) (ev_pos (by omega) (ev_pos (by simp;omega) (ev_bind0 hc (Ev.bind (i_num_some (num_dig (n:=a) (by omega) (by omega))) (Ev.bind (i_num_some (num_dig (n:=b) (by omega) (by omega))) (ev_pos rfl (ev_pos rfl (ev_neg (by simp;omega) (ev_neg (by simp;omega) (ev_bind0 (i_put n m a b (by omega) (by omega) (by omega) (by omega) (by omega)) this))))))))))
  exact loop E [] _ rfl (by simp;omega) rfl
theorem parse_both (t:List UInt8) (ht:t.length<8796093022208):∃m r c,r.length≤62∧Ev (fun k=>Qdf.f k (tx t)) (m,r,c)∧Ev (fun k=>Qaw.f k (tx t)) (m,r,c):=by
 obtain⟨r,hs,hr⟩:=s_read t ht
 unfold Qdf.f
 rcases hr with⟨n,E,hn,hE,rfl,rfl⟩|⟨hno,rfl⟩
 ·have hl:(puts (List.replicate n.toNat 0) E).length≤62:=by
   have:=((graphy_zero n (by omega)).puts hn.2 (okE_mem hE)).1.1
   omega
  exact⟨n,_,0,hl,Ev.bind hs (ev_pos rfl (Ev.now _)),i_yes hn.1 hn.2 hE⟩
 ·exact⟨0,[],6,by simp,Ev.bind hs (ev_neg (by simp) (Ev.now _)),i_no (by omega) hno⟩
theorem parse_text {n:Int} {l:List Int} (h:isG n l):Ev (fun k=>Qaw.f k (tx (gtx n (edgesTo l n.toNat)))) (n,l,0):=by
 have:=i_yes h.1.1 h.1.2.1 (edges_ok h.1)
 rw[puts_edges h]at this
 exact this
theorem u_wrap (x:Int):0≤IntKind.u64.wrap x∧IntKind.u64.wrap x<18446744073709551616:=by
 simp[IntKind.wrap,IntKind.bits,IntKind.signed]
 omega
def Codes (l:List Int):Prop:=l.length≤4096∧∀x ∈ l,0≤x∧x<256
theorem code_at {l:List Int} (h:Codes l) (i:Int):0≤rd l i∧rd l i<256:=by
 by_cases hi:i.toNat<l.length
 ·have:rd l i=l[i.toNat]:=by simp[rd,List.getD_eq_getElem?_getD,List.getElem?_eq_getElem hi]
  rw[this]
  exact h.2 _ (List.getElem_mem _)
 ·have:rd l i=0:=by simp[rd,List.getD_eq_getElem?_getD,List.getElem?_eq_none (Nat.le_of_not_lt hi)]
  omega
def At (l:List Int) (a:Int):Prop:=0≤a∧a≤l.length
theorem mask_in (x:Int):0≤bits .and .u64 (IntKind.u64.wrap x/8589934592) 16777215∧bits .and .u64 (IntKind.u64.wrap x/8589934592) 16777215≤16777215:=by
 obtain⟨a,b⟩:=u_wrap x
 obtain⟨y,hy⟩:∃y:Nat,IntKind.u64.wrap x/8589934592=(y:Int):=⟨(IntKind.u64.wrap x/8589934592).toNat,by omega⟩
 rw[hy]
 have:=uand_nat y 16777215 (by omega) (by decide)
 rw[show((16777215:Nat):Int)=16777215 from rfl]at this
 rw[this]
 have h2:y &&& 16777215≤16777215:=Nat.and_le_right
 omega
theorem next_in {l:List Int} (hl:Codes l) {a:Int} (ha:At l a) (h n:Int) (n1:n<9223372036854775808):∃x a' h',Qaa.f l a h n=some (x,a',h')∧At l a'∧0≤x∧(1≤n→x<n)∧(n<1→x=0):=by
 unfold Qaa.f
 have hlen:=hl.1
 obtain⟨m0,m1⟩:=mask_in (IntKind.u64.wrap (h*6364136223846793005)+1442695040888963407)
 by_cases hn:n<1
 ·rw[if_pos hn]
  exact⟨0,a,h,rfl,ha,by omega,by omega,fun _=>rfl⟩
 rw[if_neg hn]
 have key:∀y:Int,0≤y→0≤Int.tmod y n∧Int.tmod y n<n:=fun y hy=>by
  rw[Int.tmod_eq_emod_of_nonneg hy]
  exact⟨Int.emod_nonneg _ (by omega),Int.emod_lt_of_pos _ (by omega)⟩
 by_cases h1:a<(l.length:Int)
 ·rw[if_pos h1,if_pos ha.1,if_neg (by omega)]
  obtain⟨r0,r1⟩:=code_at hl a
  rw[w64 (a:=bits .and .u64 _ _) (by omega) (by omega),w64 (a:=rd l a) (by omega) (by omega),w64 (a:=bits .and .u64 _ _+rd l a) (by omega) (by omega),w64 (a:=a+1) (by have:=ha.1;omega) (by omega)]
  obtain⟨k0,k1⟩:=key (bits .and .u64 (IntKind.u64.wrap (IntKind.u64.wrap (h*6364136223846793005)+1442695040888963407)/8589934592) 16777215+rd l a) (by omega)
  exact⟨_,_,_,rfl,⟨by have:=ha.1;omega,by omega⟩,k0,fun _=>k1,fun q=>absurd q hn⟩
 ·rw[if_neg h1,if_neg (by omega)]
  rw[w64 (a:=bits .and .u64 _ _) (by omega) (by omega)]
  obtain⟨k0,k1⟩:=key (bits .and .u64 (IntKind.u64.wrap (IntKind.u64.wrap (h*6364136223846793005)+1442695040888963407)/8589934592) 16777215) (by omega)
  exact⟨_,_,_,rfl,ha,k0,fun _=>k1,fun q=>absurd q hn⟩
theorem pick_in {l:List Int} (hl:Codes l) {a:Int} (ha:At l a) (h:Int) (xs:List Int) (x0:0<xs.length) (x1:xs.length≤1000):∃x a' h',Qbi.f l a h xs=some (x,a',h')∧At l a'∧x ∈ xs:=by
 obtain⟨i,a',h',e,ha',i0,i1,_⟩:=next_in hl ha h (xs.length:Int) (by omega)
 have i1:=i1 (by omega)
 refine⟨rd xs i,a',h',?_,ha',?_⟩
 ·unfold Qbi.f
  rw[e]
  simp only[Option.bind_some]
  rw[if_pos i0,if_pos i1]
 ·have hi:i.toNat<xs.length:=by omega
  have:rd xs i=xs[i.toNat]:=by simp[rd,List.getD_eq_getElem?_getD,List.getElem?_eq_getElem hi]
  rw[this]
  exact List.getElem_mem _
theorem bytes_of {l:List Int} (h:∀x ∈ l,(Lit.int .u8 x).wf=true):∀x ∈ l,0≤x∧x<256:=fun x hx=>by
 have:=h x hx
 simp[Lit.wf,IntKind.min,IntKind.max,IntKind.signed,IntKind.bits]at this
 omega
theorem from_ev {l:List Int} (hl:Codes l):∃h,Ev (fun k=>Qan.f k l) (l,0,h):=by
 have loop:∀(d:Nat) (i h:Int),0≤i→i+d=l.length→∃h',Ev (fun k=>Qan.l0 k l i l 0 h) (l,(0:Int),h'):=by
  intro d
  induction d with
  |zero=>
   intro i h i0 hi
   refine⟨h,ev_k ?_⟩
   simp only[Qan.l0]
   exact ev_neg (by omega) (Ev.now _)
  |succ d ih=>
   intro i h i0 hi
   have:=hl.1
   obtain⟨h',e⟩:=ih (i+1) (IntKind.u64.wrap (IntKind.u64.wrap (IntKind.u64.wrap (h*1099511628211)+IntKind.u64.wrap (rd l i))+157)) (by omega) (by omega)
   refine⟨h',ev_k ?_⟩
   simp only[Qan.l0]
   rw[w64 (a:=i+1) (by omega) (by omega)]
   exact ev_pos (by omega) (ev_pos (by omega) (ev_pos i0 e))
 unfold Qan.f
 exact loop l.length 0 _ (by omega) (by omega)
theorem put_in (n:Int) {r:List Int} {v w:Int} (v0:0≤v) (v1:v<r.length) (w0:0≤w) (w1:w<r.length) (hl:r.length≤62):∃r',Qaf.f n r v w=some r'∧r'.length=r.length:=by
 unfold Qaf.f
 rw[if_pos v0,if_pos v1,wu64 w0 (by omega),if_pos w0]
 simp only[Option.bind_some]
 rw[if_pos w0,if_pos w1,wu64 v0 (by omega),if_pos v0]
 exact⟨_,rfl,by simp⟩
theorem drawof_in {l:List Int} (hl:Codes l) {n:Int} (n1:1≤n) (n2:n≤62) {a:Int} (ha:At l a) (h:Int):∃r a' h',(r.length:Int)=n∧At l a'∧Ev (fun k=>Qay.f k l a h n) (n,r,a',h'):=by
 obtain⟨few,a1,h1,e1,ha1,_⟩:=pick_in hl ha h [1,2,3,4,n] (by simp) (by simp)
 have outer:∀(d:Nat) (v:Int) (r:List Int) (a h:Int),0≤v→v≤n→n-v=d→(r.length:Int)=n→At l a→∃r' a' h',(r'.length:Int)=n∧At l a'∧Ev (fun k=>Qay.l0 k n few v l a h n r) (n,r',a',h'):=by
  intro d
  induction d with
  |zero=>
   intro v r a h v0 v1 hd hr ha
   refine⟨r,a,h,hr,ha,ev_k ?_⟩
   simp only[Qay.l0]
   exact ev_neg (by omega) (Ev.now _)
  |succ d ih=>
   intro v r a h v0 v1 hd hr ha
   have inner:∀(e:Nat) (w:Int) (r:List Int) (a h:Int),0≤w→w≤v→v-w=e→(r.length:Int)=n→At l a→∃r' a' h',(r'.length:Int)=n∧At l a'∧Ev (fun k=>Qay.l1 k n few v w l a h n r) (n,r',a',h'):=by
    intro e
    induction e with
    |zero=>
     intro w r a h w0 w1 he hr ha
     obtain⟨r',a',h',hr',ha',hE⟩:=ih (v+1) r a h (by omega) (by omega) (by omega) hr ha
     refine⟨r',a',h',hr',ha',ev_k ?_⟩
     simp only[Qay.l1]
     rw[w64 (a:=v+1) (by omega) (by omega)]
     exact ev_neg (by omega) hE
    |succ e ihe=>
     intro w r a h w0 w1 he hr ha
     obtain⟨x,a2,h2,e2,ha2,_⟩:=next_in hl ha h n (by omega)
     by_cases z:x<few
     ·obtain⟨p,hp,hpl⟩:=put_in n (r:=r) v0 (by omega) w0 (by omega) (by omega)
      obtain⟨r',a',h',hr',ha',hE⟩:=ihe (w+1) p a2 h2 (by omega) (by omega) (by omega) (by omega) ha2
      refine⟨r',a',h',hr',ha',ev_k ?_⟩
      simp only[Qay.l1]
      rw[w64 (a:=w+1) (by omega) (by omega)]
      exact ev_pos (by omega) (ev_bind0 e2 (ev_pos z (ev_bind0 hp hE)))
     ·obtain⟨r',a',h',hr',ha',hE⟩:=ihe (w+1) r a2 h2 (by omega) (by omega) (by omega) (by omega) ha2
      refine⟨r',a',h',hr',ha',ev_k ?_⟩
      simp only[Qay.l1]
      rw[w64 (a:=w+1) (by omega) (by omega)]
      exact ev_pos (by omega) (ev_bind0 e2 (ev_neg z hE))
   obtain⟨r',a',h',hr',ha',hE⟩:=inner v.toNat 0 r a h (by omega) (by omega) (by omega) hr ha
   refine⟨r',a',h',hr',ha',ev_k ?_⟩
   simp only[Qay.l0]
   exact ev_pos (by omega) hE
 obtain⟨r',a',h',hr',ha',hE⟩:=outer n.toNat 0 (List.replicate n.toNat 0) a1 h1 (by omega) (by omega) (by omega) (by simp;omega) ha1
 refine⟨r',a',h',hr',ha',?_⟩
 unfold Qay.f Qak.f
 rw[if_pos (by omega),if_pos (by omega)]
 simp only[Option.bind_some]
 exact ev_bind0 e1 hE
theorem le_refl {α:Type} (a:Option α):LeO a a:=fun _ h=>h
theorem le_none {α:Type} (b:Option α):LeO Option.none b:=fun _ h=>by cases h
theorem le_ite {α:Type} {c:Prop} [Decidable c] {a a' b b':Option α} (h:LeO a a') (k:LeO b b'):LeO (if c then a else b) (if c then a' else b'):=by split<;>assumption
theorem le_bind {α β:Type} {a a':Option α} {f f':α→Option β} (h:LeO a a') (k:∀x,LeO (f x) (f' x)):LeO (a.bind f) (a'.bind f'):=by
 intro r hr
 obtain⟨x,hx,hf⟩:=Option.bind_eq_some_iff.1 hr
 rw[h x hx]
 exact k x r hf
theorem mono_jumps:∀k,∀y0 y1 y2 y3 y4,LeO (Qam.l0 k y0 y1 y2 y3 y4) (Qam.l0 (k+1) y0 y1 y2 y3 y4)
 |0=>fun _ _ _ _ _ r h=>by simp[Qam.l0]at h
 |k+1=>by
  have ih:=mono_jumps k
  intro y0 y1 y2 y3 y4
  unfold Qam.l0
  repeat' first|(with_reducible exact ih _ _ _ _ _)|(with_reducible exact le_refl _)|(with_reducible exact le_none _)|(with_reducible refine le_ite ?_ ?_)|(with_reducible refine le_bind ?_ (fun _=>?_))
theorem mono_comp:∀k,∀y0 y1 y2 y3 y4,LeO (Qag.l0 k y0 y1 y2 y3 y4) (Qag.l0 (k+1) y0 y1 y2 y3 y4)
 |0=>fun _ _ _ _ _ r h=>by simp[Qag.l0]at h
 |k+1=>by
  have ih:=mono_comp k
  intro y0 y1 y2 y3 y4
  unfold Qag.l0
  repeat' first|(with_reducible exact ih _ _ _ _ _)|(with_reducible exact le_refl _)|(with_reducible exact le_none _)|(with_reducible refine le_ite ?_ ?_)|(with_reducible refine le_bind ?_ (fun _=>?_))
theorem mono_beside:∀k,∀y0 y1 y2 y3 y4 y5 y6,LeO (Qas.l0 k y0 y1 y2 y3 y4 y5 y6) (Qas.l0 (k+1) y0 y1 y2 y3 y4 y5 y6)
 |0=>fun _ _ _ _ _ _ _ r h=>by simp[Qas.l0]at h
 |k+1=>by
  have ih:=mono_beside k
  intro y0 y1 y2 y3 y4 y5 y6
  unfold Qas.l0
  repeat' first|(with_reducible exact ih _ _ _ _ _ _ _)|(with_reducible exact le_refl _)|(with_reducible exact le_none _)|(with_reducible refine le_ite ?_ ?_)|(with_reducible refine le_bind ?_ (fun _=>?_))
theorem mono_named:∀k,(∀y0 y1 y2,LeO (Qad.j0 k y0 y1 y2) (Qad.j0 (k+1) y0 y1 y2))∧(∀y0,LeO (Qad.j1 k y0) (Qad.j1 (k+1) y0))∧(∀y0 y1 y2 y3,LeO (Qad.l0 k y0 y1 y2 y3) (Qad.l0 (k+1) y0 y1 y2 y3))∧(∀y0 y1 y2 y3 y4,LeO (Qad.l1 k y0 y1 y2 y3 y4) (Qad.l1 (k+1) y0 y1 y2 y3 y4))∧(∀y0 y1 y2,LeO (Qad.l2 k y0 y1 y2) (Qad.l2 (k+1) y0 y1 y2))∧(∀y0 y1 y2,LeO (Qad.l3 k y0 y1 y2) (Qad.l3 (k+1) y0 y1 y2))∧(∀y0 y1 y2,LeO (Qad.l4 k y0 y1 y2) (Qad.l4 (k+1) y0 y1 y2))∧(∀y0 y1 y2 y3,LeO (Qad.l5 k y0 y1 y2 y3) (Qad.l5 (k+1) y0 y1 y2 y3))∧(∀y0 y1 y2 y3 y4,LeO (Qad.l6 k y0 y1 y2 y3 y4) (Qad.l6 (k+1) y0 y1 y2 y3 y4))
 |0=>⟨fun _ _ _ r h=>by simp[Qad.j0]at h,fun _ r h=>by simp[Qad.j1]at h,fun _ _ _ _ r h=>by simp[Qad.l0]at h,fun _ _ _ _ _ r h=>by simp[Qad.l1]at h,fun _ _ _ r h=>by simp[Qad.l2]at h,fun _ _ _ r h=>by simp[Qad.l3]at h,fun _ _ _ r h=>by simp[Qad.l4]at h,fun _ _ _ _ r h=>by simp[Qad.l5]at h,fun _ _ _ _ _ r h=>by simp[Qad.l6]at h⟩
 |k+1=>by
  obtain⟨ih_j0,ih_j1,ih_l0,ih_l1,ih_l2,ih_l3,ih_l4,ih_l5,ih_l6⟩:=mono_named k
  refine⟨?_,?_,?_,?_,?_,?_,?_,?_,?_⟩
  ·intro y0 y1 y2
   unfold Qad.j0 Qam.f
   repeat' first|(with_reducible exact ih_j1 _)|(with_reducible exact ih_l2 _ _ _)|(with_reducible exact ih_l3 _ _ _)|(with_reducible exact ih_l4 _ _ _)|(with_reducible exact mono_jumps k _ _ _ _ _)|(with_reducible exact le_refl _)|(with_reducible exact le_none _)|(with_reducible refine le_ite ?_ ?_)|(with_reducible refine le_bind ?_ (fun _=>?_))
  ·intro y0
   unfold Qad.j1
   repeat' first|(with_reducible exact ih_l0 _ _ _ _)|(with_reducible exact le_refl _)|(with_reducible exact le_none _)|(with_reducible refine le_ite ?_ ?_)|(with_reducible refine le_bind ?_ (fun _=>?_))
  ·intro y0 y1 y2 y3
   unfold Qad.l0
   repeat' first|(with_reducible exact ih_l1 _ _ _ _ _)|(with_reducible exact le_refl _)|(with_reducible exact le_none _)|(with_reducible refine le_ite ?_ ?_)|(with_reducible refine le_bind ?_ (fun _=>?_))
  ·intro y0 y1 y2 y3 y4
   unfold Qad.l1
   repeat' first|(with_reducible exact ih_l1 _ _ _ _ _)|(with_reducible exact ih_l0 _ _ _ _)|(with_reducible exact le_refl _)|(with_reducible exact le_none _)|(with_reducible refine le_ite ?_ ?_)|(with_reducible refine le_bind ?_ (fun _=>?_))
  ·intro y0 y1 y2
   unfold Qad.l2
   repeat' first|(with_reducible exact ih_l2 _ _ _)|(with_reducible exact le_refl _)|(with_reducible exact le_none _)|(with_reducible refine le_ite ?_ ?_)|(with_reducible refine le_bind ?_ (fun _=>?_))
  ·intro y0 y1 y2
   unfold Qad.l3
   repeat' first|(with_reducible exact ih_l3 _ _ _)|(with_reducible exact le_refl _)|(with_reducible exact le_none _)|(with_reducible refine le_ite ?_ ?_)|(with_reducible refine le_bind ?_ (fun _=>?_))
  ·intro y0 y1 y2
   unfold Qad.l4
   repeat' first|(with_reducible exact ih_l5 _ _ _ _)|(with_reducible exact le_refl _)|(with_reducible exact le_none _)|(with_reducible refine le_ite ?_ ?_)|(with_reducible refine le_bind ?_ (fun _=>?_))
  ·intro y0 y1 y2 y3
   unfold Qad.l5
   repeat' first|(with_reducible exact ih_l6 _ _ _ _ _)|(with_reducible exact ih_l4 _ _ _)|(with_reducible exact le_refl _)|(with_reducible exact le_none _)|(with_reducible refine le_ite ?_ ?_)|(with_reducible refine le_bind ?_ (fun _=>?_))
  ·intro y0 y1 y2 y3 y4
   unfold Qad.l6
   repeat' first|(with_reducible exact ih_l6 _ _ _ _ _)|(with_reducible exact ih_l5 _ _ _ _)|(with_reducible exact le_refl _)|(with_reducible exact le_none _)|(with_reducible refine le_ite ?_ ?_)|(with_reducible refine le_bind ?_ (fun _=>?_))
theorem named_mono (b:ByteArray):∀k,LeO (Qad.f k b) (Qad.f (k+1) b):=by
 intro k
 unfold Qad.f Qag.f Qas.f
 repeat' first|(with_reducible exact mono_comp k _ _ _ _ _)|(with_reducible exact mono_beside k _ _ _ _ _ _ _)|(with_reducible exact(mono_named k).1 _ _ _)|(with_reducible exact le_refl _)|(with_reducible exact le_none _)|(with_reducible refine le_ite ?_ ?_)|(with_reducible refine le_bind ?_ (fun _=>?_))
def namedOk (b:ByteArray):Bool:=match Qad.f 400 b with
 |some q=>decide (1≤q.1)&&decide (q.1≤62)&&decide ((q.2.1.length:Int)=q.1)
 |none=>false
def namesOk:Bool:=match Qdc.f with
 |some L=>L.all namedOk&&decide (L.length=15)
 |none=>false
set_option maxRecDepth 1000000
theorem names_ok:namesOk=true:=by decide +kernel
theorem names_in:∃L:List ByteArray,Qdc.f=some L∧L.length=15∧∀i:Int,0≤i→i<15→∃n r b,(1≤n∧n≤62)∧(r.length:Int)=n∧Ev (fun k=>Qad.f k (rdOf ByteArray.empty L i)) (n,r,b):=by
 have h:=names_ok
 unfold namesOk at h
 split at h
 ·rename_i L e
  rw[Bool.and_eq_true,decide_eq_true_eq]at h
  refine⟨L,e,h.2,fun i i0 i1=>?_⟩
  have hi:i.toNat<L.length:=by omega
  have hm:rdOf ByteArray.empty L i ∈ L:=by
   have:rdOf ByteArray.empty L i=L[i.toNat]:=by simp[rdOf,List.getD_eq_getElem?_getD,List.getElem?_eq_getElem hi]
   rw[this]
   exact List.getElem_mem _
  have ok:=List.all_eq_true.1 h.1 _ hm
  unfold namedOk at ok
  split at ok
  ·rename_i q eq
   simp only[Bool.and_eq_true,decide_eq_true_eq]at ok
   exact⟨q.1,q.2.1,q.2.2,ok.1,ok.2,Ev.of (named_mono _) eq⟩
  ·cases ok
 ·cases h
theorem own_self {r:List Int} (h:r.length≤1048576):Qca.f r=some r:=by
 unfold Qca.f
 simp only[Option.bind_some,List.nil_append]
 rw[if_pos (by simp;omega)]
theorem empty_some {n:Int} (n0:0≤n) (n2:n≤62):Qak.f n=some (n,List.replicate n.toNat 0):=by
 unfold Qak.f
 rw[if_pos n0,if_pos (by omega)]
theorem rd_in {p:List Int} {P:Int→Prop} (h:∀x ∈ p,P x) {i:Int} (i0:0≤i) (i1:i<p.length):P (rd p i):=by
 have hi:i.toNat<p.length:=by omega
 have:rd p i=p[i.toNat]:=by simp[rd,List.getD_eq_getElem?_getD,List.getElem?_eq_getElem hi]
 rw[this]
 exact h _ (List.getElem_mem _)
theorem tmod_in {a n:Int} (a0:0≤a) (n1:1≤n):0≤Int.tmod a n∧Int.tmod a n<n:=by
 rw[Int.tmod_eq_emod_of_nonneg a0]
 exact⟨Int.emod_nonneg _ (by omega),Int.emod_lt_of_pos _ (by omega)⟩
theorem jumps_in {n:Int} (n1:1≤n) (n2:n≤62) (js:List Int) (hj:∀x ∈ js,0≤x∧x≤1000) (hl:js.length≤1000):∃r,(r.length:Int)=n∧Ev (fun k=>Qam.f k n js) (n,r):=by
 have loop:∀(d:Nat) (i:Int) (r:List Int),0≤i→n-i=d→(r.length:Int)=n→∃r',(r'.length:Int)=n∧Ev (fun k=>Qam.l0 k n js i n r) (n,r'):=by
  intro d
  induction d with
  |zero=>
   intro i r i0 hd hr
   refine⟨r,hr,ev_k ?_⟩
   simp only[Qam.l0]
   exact ev_neg (by omega) (Ev.now _)
  |succ d ih=>
   intro i r i0 hd hr
   have t1:=tmod_in (a:=i+1) (n:=n) (by omega) n1
   obtain⟨p,hp,hpl⟩:=put_in n (r:=r) i0 (by omega) t1.1 (by omega) (by omega)
   have e1:wrap64 (i+1)=i+1:=w64 (by omega) (by omega)
   by_cases z:(js.length:Int)>0
   ·have t2:=tmod_in (a:=i) (n:=(js.length:Int)) i0 (by omega)
    have hx:=rd_in hj t2.1 t2.2
    have e2:wrap64 (i+rd js (Int.tmod i (js.length:Int)))=i+rd js (Int.tmod i (js.length:Int)):=w64 (by omega) (by omega)
    have t3:=tmod_in (a:=i+rd js (Int.tmod i (js.length:Int))) (n:=n) (by omega) n1
    obtain⟨p2,hp2,hpl2⟩:=put_in n (r:=p) i0 (by omega) t3.1 (by omega) (by omega)
    obtain⟨r',hr',hE⟩:=ih (i+1) p2 (by omega) (by omega) (by omega)
    refine⟨r',hr',ev_k ?_⟩
    simp only[Qam.l0]
    rw[e1,e2]
    exact ev_pos (by omega) (ev_neg (by omega) (ev_bind0 hp (ev_pos z (ev_neg (by omega) (ev_pos t2.1 (ev_pos t2.2 (ev_bind0 hp2 hE)))))))
   ·obtain⟨r',hr',hE⟩:=ih (i+1) p (by omega) (by omega) (by omega)
    refine⟨r',hr',ev_k ?_⟩
    simp only[Qam.l0]
    rw[e1]
    exact ev_pos (by omega) (ev_neg (by omega) (ev_bind0 hp (ev_neg z hE)))
 obtain⟨r,hr,hE⟩:=loop n.toNat 0 (List.replicate n.toNat 0) (by omega) (by omega) (by simp;omega)
 refine⟨r,hr,?_⟩
 unfold Qam.f
 exact ev_bind0 (empty_some (by omega) n2) hE
theorem order_in {l:List Int} (hl:Codes l) {n:Int} (n1:1≤n) (n2:n≤62) {a:Int} (ha:At l a) (h:Int):∃p a' h',(p.length:Int)=n∧(∀x ∈ p,0≤x∧x<n)∧At l a'∧Ev (fun k=>Qbr.f k l a h n) (p,a',h'):=by
 have loop:∀(d:Nat) (i:Int) (p:List Int) (a h:Int),0≤i→n-i=d→(p.length:Int)=i→(∀x ∈ p,0≤x∧x<n)→At l a→∃p' a' h',(p'.length:Int)=n∧(∀x ∈ p',0≤x∧x<n)∧At l a'∧Ev (fun k=>Qbr.l0 k n p i l a h) (p',a',h'):=by
  intro d
  induction d with
  |zero=>
   intro i p a h i0 hd hp hx ha
   refine⟨p,a,h,by omega,hx,ha,ev_k ?_⟩
   simp only[Qbr.l0]
   exact ev_neg (by omega) (Ev.now _)
  |succ d ih=>
   intro i p a h i0 hd hp hx ha
   have e1:wrap64 (i+1)=i+1:=w64 (by omega) (by omega)
   obtain⟨x,a2,h2,e2,ha2,x0,x1,_⟩:=next_in hl ha h (i+1) (by omega)
   have x1:=x1 (by omega)
   have eo:Qca.f (p.take x.toNat)=some (p.take x.toNat):=own_self (by rw[List.length_take];omega)
   obtain⟨p',a',h',hp',hx',ha',hE⟩:=ih (i+1) ((p.take x.toNat++[i])++p.drop x.toNat) a2 h2 (by omega) (by omega) (by simp;omega) (fun y hy=>by
    simp only[List.mem_append,List.mem_singleton]at hy
    rcases hy with(hy|rfl)|hy
    ·exact hx y (List.mem_of_mem_take hy)
    ·omega
    ·exact hx y (List.mem_of_mem_drop hy)) ha2
   refine⟨p',a',h',hp',hx',ha',ev_k ?_⟩
   simp only[Qbr.l0]
   rw[e1]
   refine ev_pos (by omega) (ev_bind0 e2 (ev_pos x0 (ev_pos (by omega) (ev_bind0 eo ?_))))
   simp only[Option.bind_some]
   exact ev_pos (by simp;omega) (ev_pos (by simp;omega) hE)
 obtain⟨p,a',h',hp,hx,ha',hE⟩:=loop n.toNat 0 [] a h (by omega) (by omega) (by simp) (by simp) ha
 refine⟨p,a',h',hp,hx,ha',?_⟩
 unfold Qbr.f
 exact hE
theorem renamed_in {n:Int} (n1:1≤n) (n2:n≤62) {r p:List Int} (hr:(r.length:Int)=n) (hp:(p.length:Int)=n) (hx:∀x ∈ p,0≤x∧x<n):∃r',(r'.length:Int)=n∧Ev (fun k=>Qat.f k n r p) (n,r'):=by
 have outer:∀(d:Nat) (v:Int) (q:List Int),0≤v→n-v=d→(q.length:Int)=n→∃r',(r'.length:Int)=n∧Ev (fun k=>Qat.l0 k p v n r n q) (n,r'):=by
  intro d
  induction d with
  |zero=>
   intro v q v0 hd hq
   refine⟨q,hq,ev_k ?_⟩
   simp only[Qat.l0]
   exact ev_neg (by omega) (Ev.now _)
  |succ d ih=>
   intro v q v0 hd hq
   have inner:∀(e:Nat) (w:Int) (q:List Int),0≤w→v-w=e→(q.length:Int)=n→∃r',(r'.length:Int)=n∧Ev (fun k=>Qat.l1 k p v w n r n q) (n,r'):=by
    intro e
    induction e with
    |zero=>
     intro w q w0 he hq
     obtain⟨r',hr',hE⟩:=ih (v+1) q (by omega) (by omega) hq
     refine⟨r',hr',ev_k ?_⟩
     simp only[Qat.l1]
     rw[w64 (a:=v+1) (by omega) (by omega)]
     exact ev_neg (by omega) hE
    |succ e ihe=>
     intro w q w0 he hq
     have hh:=s_has n r v w v0 (by omega) w0 (by omega)
     by_cases z:tb (rd r v) w=true
     ·have pv:=rd_in hx v0 (by omega)
      have pw:=rd_in hx w0 (by omega)
      obtain⟨q2,hq2,hql⟩:=put_in n (r:=q) pv.1 (by omega) pw.1 (by omega) (by omega)
      obtain⟨r',hr',hE⟩:=ihe (w+1) q2 (by omega) (by omega) (by omega)
      refine⟨r',hr',ev_k ?_⟩
      simp only[Qat.l1]
      rw[w64 (a:=w+1) (by omega) (by omega)]
      exact ev_pos (by omega) (ev_bind0 hh (ev_pos z (ev_pos v0 (ev_pos (by omega) (ev_pos w0 (ev_pos (by omega) (ev_bind0 hq2 hE)))))))
     ·obtain⟨r',hr',hE⟩:=ihe (w+1) q (by omega) (by omega) hq
      refine⟨r',hr',ev_k ?_⟩
      simp only[Qat.l1]
      rw[w64 (a:=w+1) (by omega) (by omega)]
      exact ev_pos (by omega) (ev_bind0 hh (ev_neg z hE))
   obtain⟨r',hr',hE⟩:=inner v.toNat 0 q (by omega) (by omega) hq
   refine⟨r',hr',ev_k ?_⟩
   simp only[Qat.l0]
   exact ev_pos (by omega) hE
 obtain⟨r',hr',hE⟩:=outer n.toNat 0 (List.replicate n.toNat 0) (by omega) (by omega) (by simp;omega)
 refine⟨r',hr',?_⟩
 unfold Qat.f
 exact ev_bind0 (empty_some (by omega) n2) hE
def DrawsG (l:List Int) (g:Nat→Option (Int × List Int × Int × Int)):Prop:=∃n r a h,(1≤n∧n≤62)∧(r.length:Int)=n∧At l a∧Ev g (n,r,a,h)
theorem turn_in {l:List Int} (hl:Codes l) {n:Int} (n1:1≤n) (n2:n≤62) {r:List Int} (hr:(r.length:Int)=n) {a:Int} (ha:At l a) (h:Int):DrawsG l (fun k=>Qba.j0 k l a h n r):=by
 obtain⟨x,a1,h1,e1,ha1,_⟩:=next_in hl ha h 2 (by omega)
 by_cases z:x=0
 ·obtain⟨p,a2,h2,hp,hx,ha2,hE⟩:=order_in hl n1 n2 ha1 h1
  obtain⟨r',hr',hE'⟩:=renamed_in n1 n2 hr hp hx
  refine⟨n,r',a2,h2,⟨n1,n2⟩,hr',ha2,ev_k ?_⟩
  simp only[Qba.j0]
  exact ev_bind0 e1 (ev_pos z (Ev.bind hE (Ev.bind hE' (Ev.now _))))
 ·refine⟨n,r,a1,h1,⟨n1,n2⟩,hr,ha1,ev_k ?_⟩
  simp only[Qba.j0]
  exact ev_bind0 e1 (ev_neg z (Ev.now _))
theorem regular_in {l:List Int} (hl:Codes l) {a:Int} (ha:At l a) (h:Int):DrawsG l (fun k=>Qba.f k l a h):=by
 obtain⟨L,eL,hL,hN⟩:=names_in
 obtain⟨y,a1,h1,e1,ha1,hy⟩:=pick_in hl ha h [6,13,15] (by simp) (by simp)
 simp only[List.mem_cons,List.not_mem_nil,or_false]at hy
 obtain⟨i,a2,h2,e2,ha2,i0,i1,_⟩:=next_in hl ha1 h1 y (by omega)
 have i1:=i1 (by omega)
 obtain⟨n,r,b,hn,hr,hE⟩:=hN i i0 (by omega)
 obtain⟨c,a3,h3,e3,ha3,_⟩:=next_in hl ha2 h2 3 (by omega)
 by_cases zc:c=0
 ·obtain⟨m,a4,h4,e4,ha4,m0,m1,_⟩:=next_in hl ha3 h3 14 (by omega)
  have m1:=m1 (by omega)
  obtain⟨r1,hr1,hE1⟩:=jumps_in (n:=3+m) (by omega) (by omega) [] (by simp) (by simp)
  obtain⟨q,a5,h5,e5,ha5,_⟩:=next_in hl ha4 h4 2 (by omega)
  have em:wrap64 (3+m)=3+m:=w64 (by omega) (by omega)
  have em1:wrap64 (3+m-1)=3+m-1:=w64 (by omega) (by omega)
  by_cases zq:q=0
  ·obtain⟨j,a6,h6,e6,ha6,j0,j1,_⟩:=next_in hl ha5 h5 (3+m-1) (by omega)
   have j1:=j1 (by omega)
   have ej:wrap64 (1+j)=1+j:=w64 (by omega) (by omega)
   obtain⟨r2,hr2,hE2⟩:=jumps_in (n:=3+m) (by omega) (by omega) [1+j] (by simp;omega) (by simp)
   obtain⟨n',r',a',h',hn',hr',ha',hE'⟩:=turn_in hl (n:=3+m) (by omega) (by omega) hr2 ha6 h6
   refine⟨n',r',a',h',hn',hr',ha',?_⟩
   unfold Qba.f
   rw[eL]
   simp only[Option.bind_some]
   refine ev_bind0 e1 (ev_bind0 e2 (ev_pos i0 (ev_pos (by omega) (Ev.bind hE (ev_bind0 e3 (ev_pos zc (ev_bind0 e4 ?_)))))))
   simp only[em,em1]
   refine Ev.bind hE1 (ev_bind0 e5 (ev_pos zq (ev_bind0 e6 ?_)))
   simp only[ej]
   exact Ev.bind hE2 hE'
  ·obtain⟨n',r',a',h',hn',hr',ha',hE'⟩:=turn_in hl (n:=3+m) (by omega) (by omega) hr1 ha5 h5
   refine⟨n',r',a',h',hn',hr',ha',?_⟩
   unfold Qba.f
   rw[eL]
   simp only[Option.bind_some]
   refine ev_bind0 e1 (ev_bind0 e2 (ev_pos i0 (ev_pos (by omega) (Ev.bind hE (ev_bind0 e3 (ev_pos zc (ev_bind0 e4 ?_)))))))
   simp only[em,em1]
   exact Ev.bind hE1 (ev_bind0 e5 (ev_neg zq hE'))
 ·obtain⟨n',r',a',h',hn',hr',ha',hE'⟩:=turn_in hl hn.1 hn.2 hr ha3 h3
  refine⟨n',r',a',h',hn',hr',ha',?_⟩
  unfold Qba.f
  rw[eL]
  simp only[Option.bind_some]
  exact ev_bind0 e1 (ev_bind0 e2 (ev_pos i0 (ev_pos (by omega) (Ev.bind hE (ev_bind0 e3 (ev_neg zc hE'))))))
theorem drawG_in {l:List Int} (hl:Codes l) {a:Int} (ha:At l a) (h:Int):DrawsG l (fun k=>Qcc.f k l a h):=by
 obtain⟨x,a1,h1,e1,ha1,_⟩:=next_in hl ha h 4 (by omega)
 by_cases z0:x=0
 ·obtain⟨n,r,a',h',hn,hr,ha',hE⟩:=regular_in hl ha1 h1
  refine⟨n,r,a',h',hn,hr,ha',?_⟩
  unfold Qcc.f
  exact ev_bind0 e1 (ev_pos z0 (Ev.bind hE (Ev.now _)))
 by_cases z1:x=1
 ·obtain⟨n,a2,h2,e2,ha2,hn⟩:=pick_in hl ha1 h1 [1,10,20,40,61,62] (by simp) (by simp)
  simp only[List.mem_cons,List.not_mem_nil,or_false]at hn
  obtain⟨r,a',h',hr,ha',hE⟩:=drawof_in hl (n:=n) (by omega) (by omega) ha2 h2
  refine⟨n,r,a',h',by omega,hr,ha',?_⟩
  unfold Qcc.f
  exact ev_bind0 e1 (ev_neg z0 (ev_pos z1 (ev_bind0 e2 (Ev.bind hE (Ev.now _)))))
 ·obtain⟨y,a2,h2,e2,ha2,y0,y1,_⟩:=next_in hl ha1 h1 14 (by omega)
  have y1:=y1 (by omega)
  obtain⟨r,a',h',hr,ha',hE⟩:=drawof_in hl (n:=1+y) (by omega) (by omega) ha2 h2
  refine⟨1+y,r,a',h',by omega,hr,ha',?_⟩
  unfold Qcc.f
  refine ev_bind0 e1 (ev_neg z0 (ev_neg z1 (ev_bind0 e2 ?_)))
  simp only[w64 (a:=1+y) (by omega) (by omega)]
  exact Ev.bind hE (Ev.now _)
theorem bad_in {l:List Int} (hl:Codes l) {a:Int} (ha:At l a) (h:Int) {n:Int} (n1:1≤n) (n2:n≤62) {r:List Int} (hr:(r.length:Int)=n):∃n' r' a' h',r'.length≤63∧At l a'∧Qbo.f l a h n r=some (n',r',a',h'):=by
 unfold Qbo.f
 rw[own_self (r:=r) (by omega)]
 simp only[Option.bind_some]
 obtain⟨x,a1,h1,e1,ha1,_⟩:=next_in hl ha h 50 (by omega)
 rw[e1]
 simp only[Option.bind_some]
 by_cases z0:x=0
 ·obtain⟨y,a2,h2,e2,ha2,_⟩:=pick_in hl ha1 h1 [0,63,-1,wrap64 (n+1)] (by simp) (by simp)
  rw[if_pos z0,e2]
  exact⟨_,_,_,_,by omega,ha2,rfl⟩
 rw[if_neg z0]
 by_cases z1:x=1
 ·obtain⟨y,a2,h2,e2,ha2,y0,y1,_⟩:=next_in hl ha1 h1 n (by omega)
  have y1:=y1 (by omega)
  obtain⟨c,a3,h3,e3,ha3,_⟩:=pick_in hl ha2 h2 [-1,1,2,4611686018427387904,shl .i64 1 (IntKind.u64.wrap n)] (by simp) (by simp)
  rw[if_pos z1,e2]
  simp only[Option.bind_some]
  rw[if_pos (by rw[wu64 (by omega) (by omega)];omega),e3]
  simp only[Option.bind_some]
  rw[if_pos y0,if_pos (by omega)]
  exact⟨_,_,_,_,by simp;omega,ha3,rfl⟩
 rw[if_neg z1]
 by_cases z2:x=2
 ·rw[if_pos z2,if_pos (by omega)]
  exact⟨_,_,_,_,by simp;omega,ha1,rfl⟩
 ·rw[if_neg z2]
  exact⟨_,_,_,_,by omega,ha1,rfl⟩
theorem spoil_in {l:List Int} (hl:Codes l) {a:Int} (ha:At l a) (h:Int):∃n r a' h',r.length≤63∧At l a'∧Ev (fun k=>Qbm.f k l a h) (n,r,a',h'):=by
 obtain⟨n,r,a1,h1,hn,hr,ha1,hE⟩:=drawG_in hl ha h
 obtain⟨n',r',a',h',hr',ha',e⟩:=bad_in hl ha1 h1 hn.1 hn.2 hr
 refine⟨n',r',a',h',hr',ha',?_⟩
 unfold Qbm.f
 exact Ev.bind hE (ev_bind0 e (Ev.now _))
def nx (h:Int):Int:=(h*6364136223846793005 % 18446744073709551616+1442695040888963407) % 18446744073709551616
def hs (h:Int):Nat→Int
 |0=>h
 |t+1=>nx (hs h t)
theorem hs_add (h:Int) (m:Nat):∀n,hs h (m+n)=hs (hs h m) n
 |0=>rfl
 |n+1=>by
  show nx (hs h (m+n))=nx (hs (hs h m) n)
  rw[hs_add h m n]
theorem hs_one (h:Int) (t:Nat):hs (nx h) t=nx (hs h t):=by
 have a:=hs_add h 1 t
 rw[Nat.add_comm]at a
 exact a.symm
def pw:Nat→Int × Int
 |0=>(6364136223846793005 % 144115188075855872,1442695040888963407 % 144115188075855872)
 |k+1=>((pw k).1*(pw k).1 % 144115188075855872,((pw k).1*(pw k).2+(pw k).2) % 144115188075855872)
theorem hs_pw (k:Nat):∀h,hs h (2 ^ k) % 144115188075855872=((pw k).1*h+(pw k).2) % 144115188075855872:=by
 induction k with
 |zero=>
  intro h
  show nx h % _=_
  unfold nx pw
  rw[Int.emod_emod_of_dvd _ (by decide),Int.add_emod,Int.emod_emod_of_dvd _ (by decide),← Int.add_emod,Int.add_emod,Int.mul_emod]
  rw[show(6364136223846793005 % 144115188075855872*h+1442695040888963407 % 144115188075855872:Int) % 144115188075855872=(6364136223846793005 % 144115188075855872*h % 144115188075855872+1442695040888963407 % 144115188075855872 % 144115188075855872) % 144115188075855872 from Int.add_emod _ _ _]
  rw[Int.mul_emod (6364136223846793005 % 144115188075855872),Int.emod_emod_of_dvd 6364136223846793005 (Int.dvd_refl _),Int.emod_emod_of_dvd 1442695040888963407 (Int.dvd_refl _),Int.mul_comm (h % _)]
 |succ k ih=>
  intro h
  rw[Nat.pow_succ,Nat.mul_two,hs_add,ih]
  rw[Int.add_emod,Int.mul_emod,ih h,← Int.mul_emod,← Int.add_emod]
  show _=((pw k).1*(pw k).1 % 144115188075855872*h+((pw k).1*(pw k).2+(pw k).2) % 144115188075855872) % 144115188075855872
  generalize(pw k).1=a
  generalize(pw k).2=c
  rw[Int.add_emod (a*a % _*h),Int.mul_emod (a*a % _) h,Int.emod_emod_of_dvd (a*a) (Int.dvd_refl _),← Int.mul_emod,Int.emod_emod_of_dvd (a*c+c) (Int.dvd_refl _),← Int.add_emod]
  congr 1
  rw[Int.mul_add,Int.mul_assoc,Int.add_assoc]
theorem hs_half (k:Nat) (hk:pw k=(1,72057594037927936)) (h:Int):hs h (2 ^ k) % 144115188075855872=(h+72057594037927936) % 144115188075855872:=by
 rw[hs_pw k h,hk,Int.one_mul]
def yy (h:Int):Int:=h/8589934592 % 16777216
theorem yy_half {h k:Int} (e:k % 144115188075855872=(h+72057594037927936) % 144115188075855872) (a:yy h % 3=0):yy k % 3≠0:=by
 obtain⟨m,hm⟩:∃m,k=h+72057594037927936+144115188075855872*m:=by
  refine⟨k/144115188075855872-(h+72057594037927936)/144115188075855872,?_⟩
  have x:=Int.mul_ediv_add_emod k 144115188075855872
  have y:=Int.mul_ediv_add_emod (h+72057594037927936) 144115188075855872
  rw[Int.mul_sub]
  omega
 have d:k/8589934592=h/8589934592+(8388608+16777216*m):=by
  rw[hm,show h+72057594037927936+144115188075855872*m=h+(8388608+16777216*m)*8589934592 by omega]
  exact Int.add_mul_ediv_right _ _ (by decide)
 unfold yy at *
 rw[d]
 generalize h/8589934592=z at *
 clear d
 rw[← Int.add_assoc,Int.add_mul_emod_self_left]
 have y0:=Int.emod_nonneg z (show(16777216:Int)≠0 by decide)
 have y1:=Int.emod_lt_of_pos z (show(0:Int)<16777216 by decide)
 rw[Int.add_emod,show(8388608:Int) % 16777216=8388608 from rfl]
 generalize z % 16777216=y at *
 by_cases q:y<8388608
 ·rw[Int.emod_eq_of_lt (a:=y+8388608) (b:=16777216) (by omega) (by omega)]
  omega
 ·rw[show y+8388608=y-8388608+16777216 by omega,Int.add_emod_right,Int.emod_eq_of_lt (a:=y-8388608) (b:=16777216) (by omega) (by omega)]
  omega
theorem not_both:∃P:Nat,P % 4=0∧P≤72057594037927936∧∀h,yy (nx h) % 3=0→yy (nx (hs h P)) % 3≠0:=by
 have key:∀k,pw k=(1,72057594037927936)→∀h,yy (nx h) % 3=0→yy (nx (hs h (2 ^ k))) % 3≠0:=fun k hk h a=>by
  rw[← hs_one]
  exact yy_half (hs_half k hk (nx h)) a
 exact⟨2 ^ 56,by decide,by decide,key 56 (by decide +kernel)⟩
theorem no_walk (T:Nat→Prop) (P:Nat) (hP:P % 2=0) (h0:T 0) (h1:∀t,t≤2*P+2→T t→T (t+1)∨T (t+2)) (h2:∀t,t≤P+1→T t→¬T (t+P)):False:=by
 have pair:∀t,t≤2*P+2→T t∨T (t+1):=by
  intro t
  induction t with
  |zero=>exact fun _=>.inl h0
  |succ t ih=>
   intro ht
   rcases ih (by omega) with h|h
   ·exact h1 t (by omega) h
   ·exact .inl h
 have two:∀m,2*m≤P→T (2*m):=by
  intro m
  induction m with
  |zero=>exact fun _=>h0
  |succ m ih=>
   intro hm
   have a:=ih (by omega)
   have b:=h2 (2*m) (by omega) a
   have c:T (2*m+P+1):=(pair (2*m+P) (by omega)).resolve_left b
   have d:¬T (2*m+1):=fun d=>h2 (2*m+1) (by omega) d (by rwa [show 2*m+1+P=2*m+P+1 by omega])
   exact(h1 (2*m) (by omega) a).resolve_left d
 have e:=two (P/2) (by omega)
 rw[show 2*(P/2)=0+P by omega]at e
 exact h2 0 (by omega) h0 e
def oo (h:Int):Int:=7820132*h+5724933
theorem hs_33 (k:Nat) (hk:pw k=(67174422380806145,49176800013582336)) (h:Int):∃m,hs h (2 ^ k)=h+8589934592*oo h+144115188075855872*m:=by
 have e:=hs_pw k h
 rw[hk]at e
 generalize hs h (2 ^ k)=v at *
 refine⟨v/144115188075855872-(67174422380806145*h+49176800013582336)/144115188075855872,?_⟩
 have x:=Int.mul_ediv_add_emod v 144115188075855872
 have y:=Int.mul_ediv_add_emod (67174422380806145*h+49176800013582336) 144115188075855872
 rw[Int.mul_sub]
 unfold oo
 simp only at e
 omega
theorem yy_step {h v m:Int} (e:v=h+8589934592*oo h+144115188075855872*m):yy v=(yy h+oo h) % 16777216:=by
 have d:v/8589934592=h/8589934592+(oo h+16777216*m):=by
  rw[e,show h+8589934592*oo h+144115188075855872*m=h+(oo h+16777216*m)*8589934592 by omega]
  exact Int.add_mul_ediv_right _ _ (by decide)
 unfold yy
 rw[d,← Int.add_assoc,Int.add_mul_emod_self_left,Int.emod_add_emod]
theorem oo_same {h v m:Int} (e:v=h+8589934592*oo h+144115188075855872*m):oo v % 16777216=oo h % 16777216:=by
 have:oo v=oo h+16777216*(7820132*(512*oo h+8589934592*m)):=by
  have a:oo v=7820132*v+5724933:=rfl
  have b:oo h=7820132*h+5724933:=rfl
  omega
 rw[this,Int.add_mul_emod_self_left]
theorem yy_in (h:Int):0≤yy h∧yy h<16777216:=⟨Int.emod_nonneg _ (by decide),Int.emod_lt_of_pos _ (by decide)⟩
theorem yy_walk (k:Nat) (hk:pw k=(67174422380806145,49176800013582336)) (h:Int) (s:Nat):yy (hs h (s*2 ^ k))=(yy h+s*oo h) % 16777216∧oo (hs h (s*2 ^ k)) % 16777216=oo h % 16777216:=by
 induction s with
 |zero=>
  have y:=yy_in h
  rw[Nat.zero_mul]
  show yy h=_∧_
  refine⟨?_,rfl⟩
  rw[show((0:Nat):Int)*oo h=0 by simp,Int.add_zero,Int.emod_eq_of_lt y.1 y.2]
 |succ s ih=>
  obtain⟨m,e⟩:=hs_33 k hk (hs h (s*2 ^ k))
  rw[Nat.succ_mul,hs_add]
  refine⟨?_,(oo_same e).trans ih.2⟩
  rw[yy_step e,ih.1,Int.emod_add_emod,Int.add_emod,ih.2,← Int.add_emod,Int.add_assoc]
  congr 2
  rw[Int.natCast_add,Int.add_mul]
  simp
def Slow (o:Int):Prop:=(o % 3=0∧o≤8192)∨(o % 3=1∧16777216-o≤8192)
theorem slow_of {y o:Int} (y0:0≤y) (y1:y<16777216) (o0:0≤o) (o1:o<16777216) (h:∀s:Nat,s≤2048→(y+s*o) % 16777216 % 3=0):Slow o:=by
 have st:∀s:Nat,s<2048→(y+(s+1:Nat)*o) % 16777216=if(y+s*o) % 16777216+o<16777216 then(y+s*o) % 16777216+o else(y+s*o) % 16777216+o-16777216:=by
  intro s _
  rw[Int.natCast_add,Int.add_mul,← Int.add_assoc,show((1:Nat):Int)*o=o by simp,← Int.emod_add_emod]
  have u0:=Int.emod_nonneg (y+s*o) (show(16777216:Int)≠0 by decide)
  have u1:=Int.emod_lt_of_pos (y+s*o) (show(0:Int)<16777216 by decide)
  generalize(y+s*o) % 16777216=u at *
  split
  ·rw[Int.emod_eq_of_lt (by omega) (by omega)]
  ·rw[show u+o=u+o-16777216+16777216 by omega,Int.add_emod_right,Int.emod_eq_of_lt (by omega) (by omega)]
   omega
 have z0:(y+((0:Nat):Int)*o) % 16777216=y:=by
  rw[show((0:Nat):Int)*o=0 by simp,Int.add_zero,Int.emod_eq_of_lt y0 y1]
 rcases(by omega:o % 3=0∨o % 3=1∨o % 3=2) with q|q|q
 ·refine .inl ⟨q,?_⟩
  have all:∀s:Nat,s≤2048→(y+s*o) % 16777216=y+s*o:=by
   intro s
   induction s with
   |zero=>exact fun _=>by rw[z0];simp
   |succ s ih=>
    intro hs
    have a:=ih (by omega)
    have b:=h s (by omega)
    have c:=h (s+1) hs
    rw[st s (by omega)]at c ⊢
    rw[a]at b c ⊢
    generalize hz:y+(s:Int)*o=z at *
    split at c
    ·rename_i w
     rw[if_pos w,Int.natCast_add,Int.add_mul,← Int.add_assoc,hz]
     simp
    ·omega
  have e:=all 2048 (by omega)
  have u1:=Int.emod_lt_of_pos (y+((2048:Nat):Int)*o) (show(0:Int)<16777216 by decide)
  rw[e]at u1
  omega
 ·refine .inr ⟨q,?_⟩
  have all:∀s:Nat,s≤2048→(y+s*o) % 16777216=y-s*(16777216-o):=by
   intro s
   induction s with
   |zero=>exact fun _=>by rw[z0];simp
   |succ s ih=>
    intro hs
    have a:=ih (by omega)
    have b:=h s (by omega)
    have c:=h (s+1) hs
    rw[st s (by omega)]at c ⊢
    rw[a]at b c ⊢
    have e:y-((s+1:Nat):Int)*(16777216-o)=y-(s:Int)*(16777216-o)-(16777216-o):=by
     rw[Int.natCast_add,Int.add_mul]
     simp
     omega
    rw[e]
    generalize hz:y-(s:Int)*(16777216-o)=z at *
    split at c
    ·omega
    ·rename_i w
     rw[if_neg w]
     omega
  have e:=all 2048 (by omega)
  have u0:=Int.emod_nonneg (y+((2048:Nat):Int)*o) (show(16777216:Int)≠0 by decide)
  rw[e]at u0
  omega
 ·have b:=h 0 (by omega)
  have c:=h 1 (by omega)
  rw[show(1:Nat)=0+1 from rfl,st 0 (by omega),z0]at c
  rw[z0]at b
  split at c<;>omega
theorem oo_four (k:Nat) (hk:pw k=(93795916333628945,51258035923884468)) (h:Int):oo (hs h (2 ^ k)) % 16777216=7519761*(oo h % 16777216) % 16777216:=by
 have e:=hs_pw k h
 rw[hk]at e
 generalize hs h (2 ^ k)=v at *
 simp only at e
 obtain⟨m,hm⟩:∃m,v=93795916333628945*h+51258035923884468+144115188075855872*m:=by
  refine⟨v/144115188075855872-(93795916333628945*h+51258035923884468)/144115188075855872,?_⟩
  have x:=Int.mul_ediv_add_emod v 144115188075855872
  have y:=Int.mul_ediv_add_emod (93795916333628945*h+51258035923884468) 144115188075855872
  rw[Int.mul_sub]
  omega
 have p:oo v=7519761*oo h+16777216*(43719795151420168*h+23892200406936906+67174422380806144*m):=by
  have a:oo v=7820132*v+5724933:=rfl
  have b:oo h=7820132*h+5724933:=rfl
  omega
 rw[p,Int.add_mul_emod_self_left,Int.mul_emod,show(7519761:Int) % 16777216=7519761 from rfl]
def slowN (o:Nat):Bool:=(decide (o % 3=0)&&decide (o≤8192))||(decide (o % 3=1)&&decide (16777216-o≤8192))
theorem slow_all:((List.range 8193).all fun i=>(i % 2==0||!slowN i||!slowN (7519761*i % 16777216)||!slowN (7519761*(7519761*i % 16777216) % 16777216))&&(i % 2==1||!slowN (16769024+i+1)||!slowN (7519761*(16769024+i+1) % 16777216)||!slowN (7519761*(7519761*(16769024+i+1) % 16777216) % 16777216)))=true:=by decide +kernel
theorem slowN_of {o:Nat} (h:Slow (o:Int)) (h1:o<16777216):slowN o=true:=by
 unfold slowN
 rcases h with⟨a,b⟩|⟨a,b⟩
 ·simp only[Bool.or_eq_true,Bool.and_eq_true,decide_eq_true_eq]
  omega
 ·simp only[Bool.or_eq_true,Bool.and_eq_true,decide_eq_true_eq]
  omega
theorem slow_fin {o:Int} (o0:0≤o) (o1:o<16777216) (odd:o % 2=1) (h0:Slow o) (h1:Slow (7519761*o % 16777216)) (h2:Slow (7519761*(7519761*o % 16777216) % 16777216)):False:=by
 obtain⟨n,rfl⟩:=Int.eq_ofNat_of_zero_le o0
 have e1:(7519761*(n:Int) % 16777216)=((7519761*n % 16777216:Nat):Int):=by simp
 have e2:(7519761*(7519761*(n:Int) % 16777216) % 16777216)=((7519761*(7519761*n % 16777216) % 16777216:Nat):Int):=by rw[e1];omega
 rw[e1]at h1
 rw[e2]at h2
 have s0:=slowN_of h0 (by omega)
 have s1:=slowN_of h1 (Nat.mod_lt _ (by decide))
 have s2:=slowN_of h2 (Nat.mod_lt _ (by decide))
 have all:=List.all_eq_true.1 slow_all
 rcases h0 with⟨_,b⟩|⟨_,b⟩
 ·have:=all n (List.mem_range.2 (by omega))
  rw[s0,s1,s2]at this
  have z:(n % 2==0)=false:=by
   have:n % 2=1:=by omega
   rw[this]
   rfl
  rw[z]at this
  simp at this
 ·obtain⟨i,rfl⟩:∃i,n=16769024+i+1:=⟨n-16769025,by omega⟩
  have:=all i (List.mem_range.2 (by omega))
  rw[s0,s1,s2]at this
  have z:(i % 2==1)=false:=by
   have:i % 2=0:=by omega
   rw[this]
   rfl
  rw[z]at this
  simp at this
theorem walk_33:∃P:Nat,P=8589934592∧∀(h:Int) (s:Nat),yy (hs h (s*P))=(yy h+s*oo h) % 16777216:=⟨2 ^ 33,by decide,fun h s=>(yy_walk 33 (by decide +kernel) h s).1⟩
theorem four_2:∃P:Nat,P=4∧∀h:Int,oo (hs h P) % 16777216=7519761*(oo h % 16777216) % 16777216:=⟨2 ^ 2,by decide,fun h=>oo_four 2 (by decide +kernel) h⟩
theorem no_run (k:Int):¬∀j:Nat,j≤4398046511106→yy (hs k (4*j)) % 3=0:=by
 intro h
 obtain⟨P,hP,hw⟩:=walk_33
 obtain⟨F,hF,hf⟩:=four_2
 have S:∀i:Nat,i≤2→Slow (oo (hs k (4*i)) % 16777216):=fun i hi=>by
  have y:=yy_in (hs k (4*i))
  refine slow_of y.1 y.2 (Int.emod_nonneg _ (by decide)) (Int.emod_lt_of_pos _ (by decide)) fun s hs'=>?_
  have a:=h (i+s*2147483648) (by omega)
  rw[show 4*(i+s*2147483648)=4*i+s*P by rw[hP];omega,hs_add,hw]at a
  rw[Int.add_emod,Int.mul_emod,Int.emod_emod_of_dvd (oo (hs k (4*i))) (Int.dvd_refl _),← Int.mul_emod,← Int.add_emod]
  exact a
 have z0:=S 0 (by omega)
 have z1:=S 1 (by omega)
 have z2:=S 2 (by omega)
 subst hF
 rw[show 4*1=0+4 from rfl,hs_add,hf]at z1
 rw[show 4*2=(0+4)+4 from rfl,hs_add,hf,hs_add,hf]at z2
 have od:oo (hs k (4*0)) % 16777216 % 2=1:=by
  unfold oo
  omega
 exact slow_fin (Int.emod_nonneg _ (by decide)) (Int.emod_lt_of_pos _ (by decide)) od z0 z1 z2
theorem four_in {l:List Int} (hl:Codes l):∃n r,r.length≤63∧Ev (fun k=>Qch.f k l) (n,r)∧Ev (fun k=>Qcw.f k l) (n,r)∧Ev (fun k=>Qdb.f k l) (n,r)∧Ev (fun k=>Qcx.f k l) (n,r):=by
 obtain⟨h,e⟩:=from_ev hl
 obtain⟨n,r,a,h',hr,_,hE⟩:=spoil_in hl (a:=0) ⟨by omega,by omega⟩ h
 refine⟨n,r,hr,?_,?_,?_,?_⟩
 ·unfold Qch.f
  exact Ev.bind e (Ev.bind hE (Ev.now _))
 ·unfold Qcw.f
  exact Ev.bind e (Ev.bind hE (Ev.now _))
 ·unfold Qdb.f
  exact Ev.bind e (Ev.bind hE (Ev.now _))
 ·unfold Qcx.f
  exact Ev.bind e (Ev.bind hE (Ev.now _))
theorem wrap_up (x:Int):wrap64 x<9223372036854775808:=by unfold wrap64;omega
theorem near_any {l:List Int} (hl:Codes l) {a:Int} (ha:At l a) (h m:Int):∃x a' h',Qdh.f l a h m=some (x,a',h')∧At l a':=by
 obtain⟨x,a1,h1,e1,ha1,_⟩:=next_in hl ha h 14 (by omega)
 unfold Qdh.f
 rw[e1]
 simp only[Option.bind_some]
 by_cases z:x=0
 ·obtain⟨y,a2,h2,e2,ha2,_⟩:=pick_in hl ha1 h1 [-1,wrap64 (m+1),1099511627776,-4611686018427387904] (by simp) (by simp)
  rw[if_pos z,e2]
  exact⟨_,_,_,rfl,ha2⟩
 ·obtain⟨y,a2,h2,e2,ha2,_⟩:=next_in hl ha1 h1 (wrap64 (m+1)) (wrap_up _)
  rw[if_neg z,e2]
  exact⟨_,_,_,rfl,ha2⟩
theorem nbr_in {l:List Int} (hl:Codes l):∃n r v,Ev (fun k=>Qcn.f k l) (n,r,v):=by
 obtain⟨h,e⟩:=from_ev hl
 obtain⟨n,r,a1,h1,hn,hr,ha1,hE⟩:=drawG_in hl (a:=0) ⟨by omega,by omega⟩ h
 obtain⟨x,a2,h2,e2,ha2⟩:=near_any hl ha1 h1 (wrap64 (n-1))
 obtain⟨n',r',a3,h3,_,_,e3⟩:=bad_in hl ha2 h2 hn.1 hn.2 hr
 refine⟨n',r',x,?_⟩
 unfold Qcn.f Qdi.f
 exact Ev.bind (a:=(n',r',x)) (Ev.bind e (Ev.bind hE (ev_bind0 e2 (ev_bind0 e3 (Ev.now _))))) (Ev.now _)
theorem reg_in {l:List Int} (hl:Codes l):∃n r,Ev (fun k=>Qcl.f k l) (n,r):=by
 obtain⟨h,e⟩:=from_ev hl
 obtain⟨x,a1,h1,e1,ha1,_⟩:=next_in hl (a:=0) ⟨by omega,by omega⟩ h 2 (by omega)
 by_cases z:x=0
 ·obtain⟨n,r,a2,h2,hn,hr,ha2,hE⟩:=regular_in hl ha1 h1
  obtain⟨n',r',a3,h3,_,_,e3⟩:=bad_in hl ha2 h2 hn.1 hn.2 hr
  refine⟨n',r',?_⟩
  unfold Qcl.f
  exact Ev.bind e (ev_bind0 e1 (ev_pos z (Ev.bind hE (ev_bind0 e3 (Ev.now _)))))
 ·obtain⟨n,r,a2,h2,_,_,hE⟩:=spoil_in hl ha1 h1
  refine⟨n,r,?_⟩
  unfold Qcl.f
  exact Ev.bind e (ev_bind0 e1 (ev_neg z (Ev.bind hE (Ev.now _))))
theorem edges_in {l:List Int} (hl:Codes l):∃n E,E.length≤9000∧Ev (fun k=>Qah.f k l) (n,E):=by
 obtain⟨h,e⟩:=from_ev hl
 obtain⟨n,r,a1,h1,hn,hr,ha1,hE⟩:=drawG_in hl (a:=0) ⟨by omega,by omega⟩ h
 obtain⟨F,hF,hFl,hFE⟩:=s_edges_any hn.1 hn.2 hr
 have loop:∀(d:Nat) (acc:List (List Int)) (a h:Int),d≤F.length→acc.length+2*d≤8000→At l a→∃m E,E.length≤9000∧Ev (fun k=>Qah.l0 k n F acc ((d:Int)-1) l a h) (m,E):=by
  intro d
  induction d with
  |zero=>
   intro acc a h _ hc ha
   obtain⟨x,a2,h2,e2,ha2,_⟩:=next_in hl ha h 16 (by omega)
   have fin:∃m E,E.length≤9000∧Ev (fun k:Nat=>if x=0 then((Qbi.f l a2 h2 [0,63,-1]).bind fun bt742=>some (bt742.1,acc))else if x=1 then((Qbi.f l a2 h2 [0,n,-1]).bind fun bt748=>if acc.length<5864062014805 then some (n,acc++[[0,bt748.1]])else none)else if x=2 then(if acc.length<5864062014805 then some (n,acc++[[0]])else none)else some (n,acc)) (m,E):=by
    by_cases z0:x=0
    ·obtain⟨y,a3,h3,e3,_,_⟩:=pick_in hl ha2 h2 [0,63,-1] (by simp) (by simp)
     exact⟨y,acc,by omega,ev_pos z0 (ev_bind0 e3 (Ev.now _))⟩
    by_cases z1:x=1
    ·obtain⟨y,a3,h3,e3,_,_⟩:=pick_in hl ha2 h2 [0,n,-1] (by simp) (by simp)
     exact⟨n,acc++[[0,y]],by simp;omega,ev_neg z0 (ev_pos z1 (ev_bind0 e3 (ev_pos (by omega) (Ev.now _))))⟩
    by_cases z2:x=2
    ·exact⟨n,acc++[[0]],by simp;omega,ev_neg z0 (ev_neg z1 (ev_pos z2 (ev_pos (by omega) (Ev.now _))))⟩
    ·exact⟨n,acc,by omega,ev_neg z0 (ev_neg z1 (ev_neg z2 (Ev.now _)))⟩
   obtain⟨m,E,hE,hF⟩:=fin
   refine⟨m,E,hE,ev_k ?_⟩
   simp only[Qah.l0]
   exact ev_neg (by omega) (ev_bind0 e2 hF)
  |succ d ih=>
   intro acc a h hd hc ha
   obtain⟨x,a2,h2,e2,ha2,_⟩:=next_in hl ha h 2 (by omega)
   obtain⟨y,a3,h3,e3,ha3,_⟩:=next_in hl ha2 h2 9 (by omega)
   have hi:d<F.length:=by omega
   have hm:rd_L4 F (((d+1:Nat):Int)-1)=F[d]:=by
    simp[rd_L4,List.getD_eq_getElem?_getD,List.getElem?_eq_getElem hi]
   obtain⟨u,v,huv,_⟩:=hF F[d] (List.getElem_mem hi)
   rw[huv]at hm
   have w1:wrap64 (((d+1:Nat):Int)-1-1)=(d:Int)-1:=by rw[w64 (by omega) (by omega)];omega
   have go:∀E1 E2:List Int,∃m E,E.length≤9000∧Ev (fun k=>if acc.length<5864062014805 then((some (acc++[E1])).bind fun y709=>((Qaa.f l a2 h2 9).bind fun bt712=>if bt712.1=0 then(if y709.length<5864062014805 then Qah.l0 k n F (y709++[E2]) ((d:Int)-1) l bt712.2.1 bt712.2.2 else none)else Qah.l0 k n F y709 ((d:Int)-1) l bt712.2.1 bt712.2.2))else none) (m,E):=fun E1 E2=>by
    by_cases z:y=0
    ·obtain⟨m,E,hE,hG⟩:=ih (acc++[E1]++[E2]) a3 h3 (by omega) (by simp;omega) ha3
     refine⟨m,E,hE,ev_pos (by omega) ?_⟩
     simp only[Option.bind_some]
     exact ev_bind0 e3 (ev_pos z (ev_pos (by simp;omega) hG))
    ·obtain⟨m,E,hE,hG⟩:=ih (acc++[E1]) a3 h3 (by omega) (by simp;omega) ha3
     refine⟨m,E,hE,ev_pos (by omega) ?_⟩
     simp only[Option.bind_some]
     exact ev_bind0 e3 (ev_neg z hG)
   have r0:rd [u,v] 0=u:=rfl
   have r1:rd [u,v] 1=v:=rfl
   by_cases z:x=0
   ·obtain⟨m,E,hE,hG⟩:=go [v,u] [u,v]
    refine⟨m,E,hE,ev_k ?_⟩
    simp only[Qah.l0,hm,r0,r1,w1]
    exact ev_pos (by omega) (ev_pos (by omega) (ev_pos (by omega) (ev_pos (by simp) (ev_pos (by simp) (ev_bind0 e2 (ev_pos z hG))))))
   ·obtain⟨m,E,hE,hG⟩:=go [u,v] [v,u]
    refine⟨m,E,hE,ev_k ?_⟩
    simp only[Qah.l0,hm,r0,r1,w1]
    exact ev_pos (by omega) (ev_pos (by omega) (ev_pos (by omega) (ev_pos (by simp) (ev_pos (by simp) (ev_bind0 e2 (ev_neg z hG))))))
 obtain⟨m,E,hEl,hG⟩:=loop F.length [] a1 h1 (by omega) (by simp;omega) ha1
 refine⟨m,E,hEl,?_⟩
 unfold Qah.f
 refine Ev.bind e (Ev.bind hE (Ev.bind hFE ?_))
 rw[w64 (a:=(F.length:Int)-1) (by omega) (by omega)]
 exact hG
theorem u_mod (x:Int):IntKind.u64.wrap x=x % 18446744073709551616:=by simp[IntKind.wrap,IntKind.bits,IntKind.signed]
theorem next_end {l:List Int} (h:Int) {n:Int} (n1:1≤n) (n2:n<9223372036854775808):Qaa.f l (l.length:Int) h n=some (yy (nx h) % n,(l.length:Int),nx h):=by
 have e:IntKind.u64.wrap (IntKind.u64.wrap (h*6364136223846793005)+1442695040888963407)=nx h:=by
  rw[u_mod,u_mod]
  rfl
 obtain⟨u0,u1⟩:=u_wrap (IntKind.u64.wrap (h*6364136223846793005)+1442695040888963407)
 rw[e]at u0 u1
 have ea:bits .and .u64 (nx h/8589934592) 16777215=yy (nx h):=by
  obtain⟨y,hy⟩:∃y:Nat,nx h/8589934592=(y:Int):=⟨(nx h/8589934592).toNat,by omega⟩
  unfold yy
  rw[hy]
  have:=uand_nat y 16777215 (by omega) (by decide)
  rw[show((16777215:Nat):Int)=16777215 from rfl]at this
  rw[this,show(16777215:Nat)=2 ^ 24-1 from rfl,Nat.and_two_pow_sub_one_eq_mod]
  omega
 have y:=yy_in (nx h)
 unfold Qaa.f
 rw[if_neg (by omega),if_neg (by omega),if_neg (by omega),e,ea,w64 (by omega) (by omega),Int.tmod_eq_emod_of_nonneg y.1]
theorem next_mid {l:List Int} (hl:Codes l) {a:Int} (ha:At l a) (h1:a<l.length) (h:Int) {n:Int} (n1:1≤n) (n2:n<9223372036854775808):∃x h',Qaa.f l a h n=some (x,a+1,h')∧0≤x∧x<n:=by
 obtain⟨x,a',h',e,_,x0,x1,_⟩:=next_in hl ha h n n2
 have hlen:=hl.1
 have e2:=e
 unfold Qaa.f at e2
 rw[if_neg (by omega),if_pos h1,if_pos ha.1,if_neg (by omega),w64 (a:=a+1) (by have:=ha.1;omega) (by omega)]at e2
 have:=(Prod.mk.inj (Prod.mk.inj (Option.some.inj e2)).2).1
 subst this
 exact⟨x,h',e,x0,x1 n1⟩
theorem sign_is {i:Int} (i0:0≤i) (i1:i<10):∃c,rdOf ByteArray.empty ([(⟨#[48]⟩:ByteArray),⟨#[49]⟩,⟨#[50]⟩,⟨#[57]⟩,⟨#[44]⟩,⟨#[45]⟩,⟨#[58]⟩,⟨#[32]⟩,⟨#[120]⟩,⟨#[10]⟩]:List ByteArray) i=tx [c]:=by
 rcases(by omega:i=0∨i=1∨i=2∨i=3∨i=4∨i=5∨i=6∨i=7∨i=8∨i=9) with rfl|rfl|rfl|rfl|rfl|rfl|rfl|rfl|rfl|rfl<;>exact⟨_,rfl⟩
theorem damage_none {l:List Int} {a h x1 a1 h1:Int} (e1:Qaa.f l a h 10=some (x1,a1,h1)) (x0:0≤x1) (x10:x1<10):∃c,Qdj.f l a h (tx [])=some (tx [c],a1,h1):=by
 obtain⟨c,hc⟩:=sign_is x0 x10
 refine⟨c,?_⟩
 unfold Qdj.f
 simp only[Option.bind_some]
 rw[show(((([(⟨#[48]⟩:ByteArray),⟨#[49]⟩,⟨#[50]⟩,⟨#[57]⟩,⟨#[44]⟩,⟨#[45]⟩,⟨#[58]⟩,⟨#[32]⟩,⟨#[120]⟩,⟨#[10]⟩]:List ByteArray).length:Nat):Int))=10 from rfl,e1]
 simp only[Option.bind_some]
 rw[if_pos x0,if_pos x10,if_pos (by rw[tx_size];rfl),hc]
theorem damage_some {l:List Int} {a h x1 a1 h1 x2 a2 h2 x3 a3 h3:Int} {t:List UInt8} (ht:t≠[]) (hlen:t.length<1152921504606846976) (e1:Qaa.f l a h 10=some (x1,a1,h1)) (x0:0≤x1) (x10:x1<10) (e2:Qaa.f l a1 h1 (t.length:Int)=some (x2,a2,h2)) (y0:0≤x2) (y1:x2<t.length) (e3:Qaa.f l a2 h2 3=some (x3,a3,h3)):∃t',t'.length≤t.length+1∧Qdj.f l a h (tx t)=some (tx t',a3,h3):=by
 obtain⟨c,hc⟩:=sign_is x0 x10
 have hl:0<t.length:=by
  cases t with
  |nil=>exact absurd rfl ht
  |cons _ _=>simp
 have w1:wrap64 (x2+1)=x2+1:=w64 (by omega) (by omega)
 have E0:(tx t).extract 0 x2.toNat=tx (t.take x2.toNat):=by rw[tx_ext];simp
 have E1:(tx t).extract (x2+1).toNat (tx t).size=tx (t.drop (x2+1).toNat):=by
  rw[tx_ext,tx_size]
  congr 1
  exact List.take_of_length_le (by simp)
 have E2:(tx t).extract x2.toNat (tx t).size=tx (t.drop x2.toNat):=by
  rw[tx_ext,tx_size]
  congr 1
  exact List.take_of_length_le (by simp)
 have l0:(t.take x2.toNat).length=x2.toNat:=by rw[List.length_take];omega
 have l1:(t.drop (x2+1).toNat).length=t.length-(x2+1).toNat:=List.length_drop ..
 have l2:(t.drop x2.toNat).length=t.length-x2.toNat:=List.length_drop ..
 unfold Qdj.f
 simp only[Option.bind_some]
 rw[show(((([(⟨#[48]⟩:ByteArray),⟨#[49]⟩,⟨#[50]⟩,⟨#[57]⟩,⟨#[44]⟩,⟨#[45]⟩,⟨#[58]⟩,⟨#[32]⟩,⟨#[120]⟩,⟨#[10]⟩]:List ByteArray).length:Nat):Int))=10 from rfl,e1]
 simp only[Option.bind_some]
 rw[if_pos x0,if_pos x10,if_neg (by rw[tx_size];omega),hc,tx_size,e2]
 simp only[Option.bind_some]
 rw[e3]
 simp only[Option.bind_some]
 rw[w1]
 rw[tx_size]at E1 E2
 by_cases z0:x3=0
 ·refine⟨t.take x2.toNat++[c]++t.drop (x2+1).toNat,by simp;omega,?_⟩
  rw[if_pos z0,if_pos y0,if_pos (by omega),E0,if_pos (by rw[tx_size,tx_size];simp;omega),if_pos (by omega),if_pos (by omega),E1,tx_app,if_pos (by rw[tx_size,tx_size];simp;omega),tx_app]
 rw[if_neg z0]
 by_cases z1:x3=1
 ·refine⟨t.take x2.toNat++t.drop (x2+1).toNat,by simp;omega,?_⟩
  rw[if_pos z1,if_pos y0,if_pos (by omega),if_pos (by omega),if_pos (by omega),E0,E1,if_pos (by rw[tx_size,tx_size];simp;omega),tx_app]
 ·refine⟨t.take x2.toNat++[c]++t.drop x2.toNat,by simp;omega,?_⟩
  rw[if_neg z1,if_pos y0,if_pos (by omega),E0,if_pos (by rw[tx_size,tx_size];simp;omega),E2,tx_app,if_pos (by rw[tx_size,tx_size];simp;omega),tx_app]
def Stops (l:List Int) (a h:Int) (t:List UInt8):Prop:=∃t':List UInt8,t'.length≤4398050000000∧Ev (fun k=>Qbp.l0 k (tx t) l a h) (tx t')
theorem stop_now {l:List Int} {a h x a1 h1:Int} {t:List UInt8} (e:Qaa.f l a h 3=some (x,a1,h1)) (hx:x≠0) (ht:t.length≤4398050000000):Stops l a h t:=by
 refine⟨t,ht,ev_k ?_⟩
 simp only[Qbp.l0]
 exact ev_bind0 e (ev_neg hx (Ev.now _))
theorem stop_later {l:List Int} {a h x a1 h1 a2 h2:Int} {t t':List UInt8} (e:Qaa.f l a h 3=some (x,a1,h1)) (hx:x=0) (d:Qdj.f l a1 h1 (tx t)=some (tx t',a2,h2)) (H:Stops l a2 h2 t'):Stops l a h t:=by
 obtain⟨s,hs,hE⟩:=H
 refine⟨s,hs,ev_k ?_⟩
 simp only[Qbp.l0]
 exact ev_bind0 e (ev_pos hx (ev_bind0 d hE))
def Lost (l:List Int) (h:Int):Prop:=∃(t:List UInt8) (c:Nat) (g:Int),h=hs g (4*c)∧(∀j,j<c→yy (nx (hs g (4*j))) % 3=0)∧t.length≤2000000+c∧¬Stops l (l.length:Int) h t
theorem lost_step {l:List Int} {h:Int} (H:Lost l h):yy (nx h) % 3=0∧(Lost l (hs h 2)∨Lost l (hs h 4)):=by
 obtain⟨t,c,g,hg,hj,hlen,hno⟩:=H
 have hc:c≤4398046511106:=by
  rcases Nat.lt_or_ge 4398046511106 c with q|q
  ·exact absurd (fun j hjj=>by rw[hs_one];exact hj j (by omega)) (no_run (nx g))
  ·exact q
 have e:=next_end (l:=l) h (n:=3) (by omega) (by omega)
 have z:yy (nx h) % 3=0:=Classical.byContradiction fun q=>hno (stop_now e q (by omega))
 refine⟨z,?_⟩
 have y1:=yy_in (nx (nx h))
 have e1:=next_end (l:=l) (nx h) (n:=10) (by omega) (by omega)
 by_cases ht:t=[]
 ·subst ht
  obtain⟨c',hd⟩:=damage_none e1 (by omega) (by omega)
  refine .inl ⟨[c'],0,nx (nx h),rfl,fun j q=>absurd q (Nat.not_lt_zero _),by simp,fun q=>hno (stop_later e z hd q)⟩
 ·have hl:0<t.length:=by
   cases t with
   |nil=>exact absurd rfl ht
   |cons _ _=>simp
  have y2:=yy_in (nx (nx (nx h)))
  have e2:=next_end (l:=l) (nx (nx h)) (n:=(t.length:Int)) (by omega) (by omega)
  have e3:=next_end (l:=l) (nx (nx (nx h))) (n:=3) (by omega) (by omega)
  obtain⟨t',hl',hd⟩:=damage_some ht (by omega) e1 (by omega) (by omega) e2 (Int.emod_nonneg _ (by omega)) (Int.emod_lt_of_pos _ (by omega)) e3
  refine .inr ⟨t',c+1,g,?_,fun j q=>?_,by omega,fun q=>hno (stop_later e z hd q)⟩
  ·rw[hg,← hs_add]
   rfl
  ·by_cases qq:j=c
   ·rw[qq,← hg]
    exact z
   ·exact hj j (by omega)
theorem not_lost (l:List Int) (h:Int):¬Lost l h:=by
 intro H
 obtain⟨P,hP,hP2,hb⟩:=not_both
 refine no_walk (fun t=>Lost l (hs h (2*t))) (P/2) (by omega) H (fun t _ ht=>?_) fun t _ ht hq=>?_
 ·rcases(lost_step ht).2 with q|q
  ·rw[← hs_add,show 2*t+2=2*(t+1) by omega]at q
   exact .inl q
  ·rw[← hs_add,show 2*t+4=2*(t+2) by omega]at q
   exact .inr q
 ·have z:=(lost_step ht).1
  have y:=(lost_step hq).1
  rw[show 2*(t+P/2)=2*t+P by omega,hs_add]at y
  exact hb _ z y
theorem stops {l:List Int} (hl:Codes l) (d:Nat):∀(a h:Int) (t:List UInt8),At l a→(l.length:Int)-a≤d→(t.length:Int)+(l.length-a)≤2000000→Stops l a h t:=by
 induction d with
 |zero=>
  intro a h t ha hd ht
  have:a=(l.length:Int):=by have:=ha.2;omega
  subst this
  refine Classical.byContradiction fun q=>not_lost l h ⟨t,0,h,rfl,fun j q=>absurd q (Nat.not_lt_zero _),by omega,q⟩
 |succ d ih=>
  intro a h t ha hd ht
  by_cases z:a<l.length
  ·obtain⟨x,h1,e,x0,x1⟩:=next_mid hl ha z h (n:=3) (by omega) (by omega)
   by_cases hx:x=0
   ·have ha1:At l (a+1):=⟨by have:=ha.1;omega,by omega⟩
    obtain⟨x1,a1,h2,e1,ha2,u0,u1,_⟩:=next_in hl ha1 h1 10 (by omega)
    have up:∀{b g n y b' g':Int},At l b→n<9223372036854775808→Qaa.f l b g n=some (y,b',g')→b≤b':=by
     intro b g n y b' g' hb hn he
     have h0:=hl.1
     unfold Qaa.f at he
     have b0:=hb.1
     by_cases q1:n<1
     ·rw[if_pos q1]at he
      have:=(Prod.mk.inj (Prod.mk.inj (Option.some.inj he)).2).1
      omega
     rw[if_neg q1]at he
     by_cases q2:b<(l.length:Int)
     ·rw[if_pos q2,if_pos hb.1,if_neg (by omega),w64 (a:=b+1) (by omega) (by omega)]at he
      have:=(Prod.mk.inj (Prod.mk.inj (Option.some.inj he)).2).1
      omega
     ·rw[if_neg q2,if_neg (by omega)]at he
      have:=(Prod.mk.inj (Prod.mk.inj (Option.some.inj he)).2).1
      omega
    have p1:=up ha1 (by omega) e1
    by_cases hte:t=[]
    ·subst hte
     obtain⟨c,hdm⟩:=damage_none e1 u0 (u1 (by omega))
     exact stop_later e hx hdm (ih a1 h2 [c] ha2 (by omega) (by have:=ha2.2;simp;omega))
    ·have htl:0<t.length:=by
      cases t with
      |nil=>exact absurd rfl hte
      |cons _ _=>simp
     have hlen:=ha.2
     obtain⟨x2,a2,h3,e2,ha3,v0,v1,_⟩:=next_in hl ha2 h2 (t.length:Int) (by omega)
     obtain⟨x3,a3,h4,e3,ha4,_⟩:=next_in hl ha3 h3 3 (by omega)
     have p2:=up ha2 (by omega) e2
     have p3:=up ha3 (by omega) e3
     obtain⟨t',hl',hdm⟩:=damage_some hte (by omega) e1 u0 (u1 (by omega)) e2 v0 (v1 (by omega)) e3
     exact stop_later e hx hdm (ih a3 h4 t' ha4 (by omega) (by omega))
   ·exact stop_now e hx (by have:=ha.2;omega)
  ·exact ih a h t ha (by have:=ha.2;omega) ht
theorem line_in {l:List Int} (hl:Codes l):∃t:List UInt8,t.length<8796093022208∧Ev (fun k=>Qbp.f k l) (tx t):=by
 obtain⟨h,e⟩:=from_ev hl
 obtain⟨x,a1,h1,e1,ha1,x0,x1,_⟩:=next_in hl (a:=0) ⟨by omega,by omega⟩ h 8 (by omega)
 have x1:=x1 (by omega)
 obtain⟨r,a2,h2,hr,ha2,hE⟩:=drawof_in hl (n:=1+x) (by omega) (by omega) ha1 h1
 obtain⟨F,hF,hFl,hFE⟩:=s_edges_any (n:=1+x) (by omega) (by omega) hr
 have hT:=s_gtext_of (n:=1+x) (by omega) (by omega) hF hFl hFE
 have jl:=join_len (F.map et) 5 44 (et_len2 (n:=1+x) (by omega) hF)
 have dl:=dig_len (n:=1+x) (by omega)
 rw[List.length_map]at jl
 have hlen:=hl.1
 have h0:=ha2.1
 obtain⟨t,ht,hS⟩:=stops hl ((l.length:Int)-a2).toNat a2 h2 (gtx (1+x) F) ha2 (by omega) (by
  simp only[gtx,List.length_append,List.length_cons]
  omega)
 refine⟨t,by omega,?_⟩
 unfold Qbp.f Qde.f
 refine Ev.bind e (Ev.bind (a:=(1+x,r,a2,h2)) ?_ (Ev.bind hT hS))
 refine ev_bind0 e1 ?_
 simp only[w64 (a:=1+x) (by omega) (by omega)]
 exact Ev.bind hE (Ev.now _)
theorem min_l0 (l:List Int) (hl:l.length≤1152921504606846976) (d:Nat):∀(m i:Int),0≤i→i≤l.length→l.length-i=d→∃r,Ev (fun k=>Qbg.l0 k l m i) r∧r≤m∧(∀j:Int,i≤j→j<l.length→r≤rd l j)∧(r=m∨∃j:Int,i≤j∧j<l.length∧r=rd l j):=by
 induction d with
 |zero=>
  intro m i i0 i1 hd
  refine⟨m,ev_k ?_,by omega,fun j _ _=>by omega,.inl rfl⟩
  simp only[Qbg.l0]
  exact ev_neg (by omega) (Ev.now _)
 |succ d ih=>
  intro m i i0 i1 hd
  obtain⟨r,hr,r1,r2,r3⟩:=ih (mn m (rd l i)) (i+1) (by omega) (by omega) (by omega)
  have e:mn m (rd l i)≤m∧mn m (rd l i)≤rd l i∧(mn m (rd l i)=m∨mn m (rd l i)=rd l i):=by
   unfold mn
   split<;>omega
  refine⟨r,ev_k ?_,by omega,fun j j0 j1=>if h:j=i then by rw[h];omega else r2 j (by omega) j1,?_⟩
  ·simp only[Qbg.l0]
   rw[w64 (a:=i+1) (by omega) (by omega)]
   exact ev_pos (by omega) (ev_pos i0 hr)
  ·rcases r3 with h|⟨j,j0,j1,h⟩
   ·rcases e.2.2 with e|e
    ·exact .inl (h.trans e)
    ·exact .inr ⟨i,by omega,by omega,h.trans e⟩
   ·exact .inr ⟨j,by omega,j1,h⟩
theorem max_l0 (l:List Int) (hl:l.length≤1152921504606846976) (d:Nat):∀(m i:Int),0≤i→i≤l.length→l.length-i=d→∃r,Ev (fun k=>Qbh.l0 k l m i) r∧m≤r∧(∀j:Int,i≤j→j<l.length→rd l j≤r)∧(r=m∨∃j:Int,i≤j∧j<l.length∧r=rd l j):=by
 induction d with
 |zero=>
  intro m i i0 i1 hd
  refine⟨m,ev_k ?_,by omega,fun j _ _=>by omega,.inl rfl⟩
  simp only[Qbh.l0]
  exact ev_neg (by omega) (Ev.now _)
 |succ d ih=>
  intro m i i0 i1 hd
  obtain⟨r,hr,r1,r2,r3⟩:=ih (mx m (rd l i)) (i+1) (by omega) (by omega) (by omega)
  have e:m≤mx m (rd l i)∧rd l i≤mx m (rd l i)∧(mx m (rd l i)=m∨mx m (rd l i)=rd l i):=by
   unfold mx
   split<;>omega
  refine⟨r,ev_k ?_,by omega,fun j j0 j1=>if h:j=i then by rw[h];omega else r2 j (by omega) j1,?_⟩
  ·simp only[Qbh.l0]
   rw[w64 (a:=i+1) (by omega) (by omega)]
   exact ev_pos (by omega) (ev_pos i0 hr)
  ·rcases r3 with h|⟨j,j0,j1,h⟩
   ·rcases e.2.2 with e|e
    ·exact .inl (h.trans e)
    ·exact .inr ⟨i,by omega,by omega,h.trans e⟩
   ·exact .inr ⟨j,by omega,j1,h⟩
theorem mins (l:List Int) (hl:l.length≤1152921504606846976) (h0:0<l.length):∃r,Ev (fun k=>Qbg.f k l) r∧(∀j:Int,0≤j→j<l.length→r≤rd l j)∧∃j:Int,0≤j∧j<l.length∧r=rd l j:=by
 obtain⟨r,hr,r1,r2,r3⟩:=min_l0 l hl (l.length-1) (rd l 0) 1 (by omega) (by omega) (by omega)
 refine⟨r,?_,fun j j0 j1=>if h:j=0 then by rw[h];exact r1 else r2 j (by omega) j1,?_⟩
 ·unfold Qbg.f
  exact ev_neg (by omega) (ev_pos (by omega) hr)
 ·rcases r3 with h|⟨j,j0,j1,h⟩
  ·exact⟨0,by omega,by omega,h⟩
  ·exact⟨j,by omega,j1,h⟩
theorem maxs (l:List Int) (hl:l.length≤1152921504606846976) (h0:0<l.length):∃r,Ev (fun k=>Qbh.f k l) r∧(∀j:Int,0≤j→j<l.length→rd l j≤r)∧∃j:Int,0≤j∧j<l.length∧r=rd l j:=by
 obtain⟨r,hr,r1,r2,r3⟩:=max_l0 l hl (l.length-1) (rd l 0) 1 (by omega) (by omega) (by omega)
 refine⟨r,?_,fun j j0 j1=>if h:j=0 then by rw[h];exact r1 else r2 j (by omega) j1,?_⟩
 ·unfold Qbh.f
  exact ev_neg (by omega) (ev_pos (by omega) hr)
 ·rcases r3 with h|⟨j,j0,j1,h⟩
  ·exact⟨0,by omega,by omega,h⟩
  ·exact⟨j,by omega,j1,h⟩
def reg (n:Int) (l:List Int):Prop:=∀v,0≤v→v<n→deg l v=deg l 0
theorem s_regular {n:Int} {l:List Int} (h:rows n l):∃r,Ev (fun k=>Qbt.f k n l) r∧(reg n l→r=deg l 0)∧(¬reg n l→r=-1):=by
 have n1:=h.1
 have n2:=h.2.1
 have loop:∀(d:Nat) (v:Int),1≤v→v≤n→n-v=d→(∀w,0≤w→w<v→deg l w=deg l 0)→∃r,Ev (fun k=>Qbt.l0 k v n l) r∧(reg n l→r=deg l 0)∧(¬reg n l→r=-1):=by
  intro d
  induction d with
  |zero=>
   intro v v0 v1 hd hb
   refine⟨deg l 0,ev_k ?_,fun _=>rfl,fun z=>absurd (fun w w0 w1=>hb w w0 (by omega)) z⟩
   simp only[Qbt.l0]
   exact ev_neg (by omega) (Ev.bind (s_degree h (by omega) (by omega)) (Ev.now _))
  |succ d ih=>
   intro v v0 v1 hd hb
   by_cases hv:deg l v=deg l 0
   ·obtain⟨r,hr,h1,h2⟩:=ih (v+1) (by omega) (by omega) (by omega) fun w w0 w1=>if e:w=v then by rw[e];exact hv else hb w w0 (by omega)
    refine⟨r,ev_k ?_,h1,h2⟩
    simp only[Qbt.l0]
    rw[w64 (a:=v+1) (by omega) (by omega)]
    exact ev_pos (by omega) (Ev.bind (s_degree h (by omega) (by omega)) (Ev.bind (s_degree h (by omega) (by omega)) (ev_pos hv hr)))
   ·refine⟨-1,ev_k ?_,fun z=>absurd (z v (by omega) (by omega)) hv,fun _=>rfl⟩
    simp only[Qbt.l0]
    exact ev_pos (by omega) (Ev.bind (s_degree h (by omega) (by omega)) (Ev.bind (s_degree h (by omega) (by omega)) (ev_neg hv (Ev.now _))))
 unfold Qbt.f
 exact loop (n.toNat-1) 1 (by omega) (by omega) (by omega) fun w w0 w1=>by rw[show w=0 by omega]
theorem i_regular {n:Int} {l:List Int} (h:rows n l):∃r,Ev (fun k=>Qci.f k n l) r∧(reg n l→r=deg l 0)∧(¬reg n l→r=-1):=by
 have n1:=h.1
 have n2:=h.2.1
 have hl:=degs_length l n.toNat
 obtain⟨a,ha,a1,j,j0,j1,ja⟩:=mins (degs l n.toNat) (by omega) (by omega)
 obtain⟨b,hb,b1,i,i0,i1,ib⟩:=maxs (degs l n.toNat) (by omega) (by omega)
 have at':∀v,0≤v→v<n→rd (degs l n.toNat) v=deg l v:=fun v v0 v1=>degs_at l _ v v0 (by omega)
 have e:a=b↔reg n l:=by
  constructor
  ·intro e v v0 v1
   have p:=a1 v v0 (by omega)
   have q:=b1 v v0 (by omega)
   have p':=a1 0 (by omega) (by omega)
   have q':=b1 0 (by omega) (by omega)
   rw[at' v v0 v1]at p q
   rw[at' 0 (by omega) (by omega)]at p' q'
   omega
  ·intro z
   rw[ja,ib,at' j j0 (by omega),at' i i0 (by omega),z j j0 (by omega),z i i0 (by omega)]
 by_cases hc:a=b
 ·refine⟨deg l 0,?_,fun _=>rfl,fun z=>absurd (e.1 hc) z⟩
  unfold Qci.f
  refine Ev.bind (i_degrees h) (Ev.bind ha (Ev.bind hb (ev_pos hc (ev_pos (by omega) ?_))))
  rw[at' 0 (by omega) (by omega)]
  exact Ev.now _
 ·refine⟨-1,?_,fun z=>absurd (e.2 z) hc,fun _=>rfl⟩
  unfold Qci.f
  exact Ev.bind (i_degrees h) (Ev.bind ha (Ev.bind hb (ev_neg hc (Ev.now _))))
theorem regulars {n:Int} {l:List Int} (h:rows n l):∃r,Ev (fun k=>Qbt.f k n l) r∧Ev (fun k=>Qci.f k n l) r∧(reg n l→r=deg l 0)∧(¬reg n l→r=-1):=by
 obtain⟨r,hr,r1,r2⟩:=s_regular h
 obtain⟨s,hs,s1,s2⟩:=i_regular h
 have:s=r:=by
  by_cases z:reg n l
  ·rw[r1 z,s1 z]
  ·rw[r2 z,s2 z]
 exact⟨r,hr,this ▸ hs,r1,r2⟩
theorem like_self (r:List Int) (hr:r.length≤1048576):Ev (fun k=>Qbf.f k r r) true:=by
 have loop:∀(d:Nat) (i:Int),0≤i→i+d=r.length→Ev (fun k=>Qbf.l0 k r r i) true:=by
  intro d
  induction d with
  |zero=>
   intro i i0 hi
   refine ev_k ?_
   simp only[Qbf.l0]
   exact ev_neg (by omega) (Ev.now _)
  |succ d ih=>
   intro i i0 hi
   refine ev_k ?_
   simp only[Qbf.l0]
   rw[w64 (a:=i+1) (by omega) (by omega)]
   exact ev_pos (by omega) (ev_pos i0 (ev_pos (by omega) (ev_pos trivial (ih (i+1) (by omega) (by omega)))))
 unfold Qbf.f
 exact ev_pos rfl (loop r.length 0 (by omega) (by omega))
end Go.Proofs.YtmofdldplbplbaaGreatDoor.Q
namespace Go.Proofs.YtmofdldplbplbaaGreatDoor.Pure
open Go Go.RowKit Go.Proofs.YtmofdldplbplbaaGreatDoor.P Go.Proofs.YtmofdldplbplbaaGreatDoorW.PrintWords Go.Proofs.YtmofdldplbplbaaGreatDoorW.PrintLast Go.Proofs.YtmofdldplbplbaaGreatDoorW.PrintMore Go.Proofs.YtmofdldplbplbaaGreatDoor.Q
theorem edges_both (n:Int) (l:List Int):∃E c,(E.length≤1048576∧∀x ∈ E,x.length≤1048576)∧Ev (fun k=>Qdm.f k n l) (E,c)∧Ev (fun k=>Qcm.f k n l) (E,c)∧(isG n l→E=edgesTo l n.toNat∧c=0):=by
 unfold Qdm.f Qcm.f
 by_cases hg:isG n l
 ·have hl:=edgesTo_length l n.toNat
  have n2:=hg.1.2.1
  refine⟨_,0,⟨by omega,fun x hx=>?_⟩,Ev.bind ((s_is n l).yes hg) (ev_pos rfl (Ev.bind (s_edges hg.1) (Ev.now _))),Ev.bind ((i_is n l).yes hg) (ev_pos rfl (Ev.bind (i_edges hg.1) (Ev.now _))),fun _=>⟨rfl,rfl⟩⟩
  obtain⟨a,b,rfl,_⟩:=okE_mem (edges_ok hg.1) x hx
  simp
 ·exact⟨[],1,by simp,Ev.bind ((s_is n l).no hg) (ev_neg (by simp) (Ev.now _)),Ev.bind ((i_is n l).no hg) (ev_neg (by simp) (Ev.now _)),fun q=>absurd q hg⟩
theorem spec_degs {n:Int} {l:List Int} (h:rows n l):Ev (fun k=>Qby.l0 k [] 0 n l) (degs l n.toNat,0):=by
 have n1:=h.1
 have n2:=h.2.1
 have loop:∀(d v:Nat),(v:Int)≤n→n-v=d→Ev (fun k=>Qby.l0 k (degs l v) v n l) (degs l n.toNat,0):=by
  intro d
  induction d with
  |zero=>
   intro v v1 hd
   refine ev_k ?_
   simp only[Qby.l0]
   refine ev_neg (by omega) (ev_some ?_)
   rw[show v=n.toNat by omega]
  |succ d ih=>
   intro v v1 hd
   have:=ih (v+1) (by omega) (by omega)
   rw[degs_succ]at this
   have dl:=degs_length l v
   refine ev_k ?_
   simp only[Qby.l0]
   rw[w64 (a:=(v:Int)+1) (by omega) (by omega)]
   exact ev_pos (by omega) (Ev.bind (s_degree h (by omega) (by omega)) (ev_pos (by omega) this))
 exact loop n.toNat 0 (by omega) (by omega)
theorem degs_both (n:Int) (l:List Int):∃r c,r.length≤62∧Ev (fun m=>Qby.f m n l) (r,c)∧Ev (fun m=>Qcp.f m n l) (r,c)∧(isG n l→r=degs l n.toNat∧c=0):=by
 unfold Qby.f Qcp.f
 by_cases hg:isG n l
 ·have n2:=hg.1.2.1
  exact⟨_,0,by rw[degs_length];omega,Ev.bind ((s_is n l).yes hg) (ev_pos rfl (spec_degs hg.1)),Ev.bind ((i_is n l).yes hg) (ev_pos rfl (Ev.bind (i_degrees hg.1) (Ev.now _))),fun _=>⟨rfl,rfl⟩⟩
 ·exact⟨[],1,by simp,Ev.bind ((s_is n l).no hg) (ev_neg (by simp) (Ev.now _)),Ev.bind ((i_is n l).no hg) (ev_neg (by simp) (Ev.now _)),fun q=>absurd q hg⟩
theorem reg_both (n:Int) (l:List Int):∃d c,Ev (fun k=>Qcv.f k n l) (d,c)∧Ev (fun k=>Qcu.f k n l) (d,c):=by
 unfold Qcv.f Qcu.f
 by_cases hg:isG n l
 ·obtain⟨r,h1,h2,_,_⟩:=regulars hg.1
  by_cases h:r<0
  ·exact⟨0,5,Ev.bind ((s_is n l).yes hg) (ev_pos rfl (Ev.bind h1 (ev_pos h (Ev.now _)))),Ev.bind ((i_is n l).yes hg) (ev_pos rfl (Ev.bind h2 (ev_pos h (Ev.now _))))⟩
  ·exact⟨r,0,Ev.bind ((s_is n l).yes hg) (ev_pos rfl (Ev.bind h1 (ev_neg h (Ev.now _)))),Ev.bind ((i_is n l).yes hg) (ev_pos rfl (Ev.bind h2 (ev_neg h (Ev.now _))))⟩
 ·exact⟨0,1,Ev.bind ((s_is n l).no hg) (ev_neg (by decide) (Ev.now _)),Ev.bind ((i_is n l).no hg) (ev_neg (by decide) (Ev.now _))⟩
theorem graphs_self (m:Int) (r:List Int) (hr:r.length≤1048576):Ev (fun k=>Qbu.f k m r m r) true:=by
 unfold Qbu.f
 exact ev_pos rfl (Ev.bind (like_self r hr) (Ev.now _))
theorem rows_self5 (g:List (List Int)) (hg:g.length≤1048576) (hx:∀x ∈ g,x.length≤1048576):Ev (fun k=>Qck.f k g g) true:=by
 have loop:∀(d:Nat) (i:Int),0≤i→i+d=g.length→Ev (fun k=>Qck.l0 k g g i) true:=by
  intro d
  induction d with
  |zero=>
   intro i i0 hi
   refine ev_k ?_
   simp only[Qck.l0]
   exact ev_neg (by omega) (Ev.now _)
  |succ d ih=>
   intro i i0 hi
   have hm:(rd_L4 g i).length≤1048576:=by
    have hi':i.toNat<g.length:=by omega
    have:rd_L4 g i=g[i.toNat]:=by simp[rd_L4,List.getD_eq_getElem?_getD,List.getElem?_eq_getElem hi']
    rw[this]
    exact hx _ (List.getElem_mem _)
   refine ev_k ?_
   simp only[Qck.l0]
   rw[w64 (a:=i+1) (by omega) (by omega)]
   exact ev_pos (by omega) (ev_pos i0 (ev_pos (by omega) (Ev.bind (like_self _ hm) (ev_pos rfl (ih (i+1) (by omega) (by omega))))))
 unfold Qck.f
 exact ev_pos rfl (loop g.length 0 (by omega) (by omega))
theorem sum_degs {n:Int} (l:List Int) (n0:0≤n) (n2:n≤62):Ev (fun k=>Qcs.f k (degs l n.toNat)) (sm (fun v=>deg l v) n.toNat):=by
 have dl:=degs_length l n.toNat
 have low:∀m:Nat,0≤sm (fun v=>deg l v) m∧sm (fun v=>deg l v) m≤64*m:=by
  intro m
  induction m with
  |zero=>simp[sm]
  |succ m ih=>
   have:=deg_range l (m:Int)
   simp only[sm]
   omega
 have loop:∀(d i:Nat),i+d=n.toNat→Ev (fun k=>Qcs.l0 k (degs l n.toNat) (sm (fun v=>deg l v) i) (i:Int)) (sm (fun v=>deg l v) n.toNat):=by
  intro d
  induction d with
  |zero=>
   intro i hi
   refine ev_k ?_
   simp only[Qcs.l0]
   refine ev_neg (by omega) (ev_some ?_)
   rw[show i=n.toNat by omega]
  |succ d ih=>
   intro i hi
   have:=ih (i+1) (by omega)
   have a:=low i
   have b:=deg_range l (i:Int)
   refine ev_k ?_
   simp only[Qcs.l0]
   rw[degs_at l n.toNat (i:Int) (by omega) (by omega),w64 (a:=(i:Int)+1) (by omega) (by omega),w64 (a:=sm (fun v=>deg l v) i+deg l (i:Int)) (by omega) (by omega)]
   exact ev_pos (by omega) (ev_pos (by omega) this)
 unfold Qcs.f
 exact loop n.toNat 0 (by omega)
theorem FnGraphs:∀(l0:List Int),l0.length≤maxLen→(∀x ∈ l0,(Lit.int .u8 x).wf=true)→∃k,Qar.f k l0=some true:=by
 intro l _ hb
 refine Ev.rounds ?_
 unfold Qar.f Qdn.f
 simp only[Option.bind_some]
 by_cases h:(l.length:Int)>4096
 ·exact ev_pos (decide_eq_true h) (Ev.now _)
 refine ev_neg (by simpa using h) ?_
 have hl:Codes l:=⟨by omega,bytes_of hb⟩
 obtain⟨gn,gr,hgr,d1,d2,d3,d4⟩:=four_in hl
 obtain⟨cm,cr,cc,hcr,cs,ci,hc,_⟩:=comp_both gn gr
 obtain⟨en,eE,heE,d5⟩:=edges_in hl
 obtain⟨am,ar,ac,har,as_,ai,_⟩:=graph_both en eE (by omega)
 obtain⟨bn,br,bv,d6⟩:=nbr_in hl
 obtain⟨br',bc,hbr,bs,bi⟩:=near_both bn br bv
 obtain⟨xn,xr,d7⟩:=reg_in hl
 obtain⟨xd,xc,xs,xi⟩:=reg_both xn xr
 obtain⟨t,ht,d8⟩:=line_in hl
 obtain⟨pm,pr,pc,hpr,ps,pi,hpx⟩:∃m r c,r.length≤62∧Ev (fun k=>Qdf.f k (tx t)) (m,r,c)∧Ev (fun k=>Qaw.f k (tx t)) (m,r,c)∧True:=by
  obtain⟨m,r,c,a1,a2,a3⟩:=parse_both t ht
  exact⟨m,r,c,a1,a2,a3,trivial⟩
 obtain⟨tt,tc,ts,ti,htext⟩:=text_both gn gr
 obtain⟨zE,zc,hzE,zs,zi,hedges⟩:=edges_both gn gr
 obtain⟨ur,uc,hur,us,ui,hdegs⟩:=degs_both gn gr
 have h1:Ev (fun z=>Qar.j1 z l) true:=by
  refine ev_k ?_
  simp only[Qar.j1]
  exact Ev.bind d5 (Ev.bind ai (Ev.bind as_ (Ev.bind d6 (Ev.bind bi (Ev.bind bs (Ev.bind d7 (Ev.bind xi (Ev.bind xs (Ev.bind d8 (Ev.bind pi (Ev.bind ps (Ev.bind d2 (Ev.bind ti (Ev.bind ts (Ev.bind d3 (Ev.bind zi (Ev.bind zs (Ev.bind d4 (Ev.bind ui (Ev.bind us (ev_pos rfl (Ev.bind (graphs_self am ar (by omega)) (ev_pos rfl (ev_pos rfl (Ev.bind (like_self br' (by omega)) (ev_pos rfl (ev_pos rfl (ev_pos rfl (ev_pos rfl (Ev.bind (graphs_self pm pr (by omega)) (ev_pos rfl (ev_pos rfl (ev_pos rfl (ev_pos rfl (Ev.bind (rows_self5 zE hzE.1 hzE.2) (ev_pos rfl (ev_pos rfl (Ev.bind (like_self ur (by omega)) (Ev.now _)))))))))))))))))))))))))))))))))))))))
 have h0:Ev (fun z=>Qar.j0 z l cc false gn gr cm cr) true:=by
  refine ev_k ?_
  simp only[Qar.j0]
  refine ev_neg (by simp) ?_
  by_cases z:cc=0
  ·obtain⟨hg,rfl,hcomp⟩:=hc z
   have n1:=hg.1.1
   have n2:=hg.1.2.1
   have hG2:=comp_isG hg hcomp
   obtain⟨b,hbk,bE⟩:=comp_yes hG2
   obtain rfl:=comp_back hg hcomp hbk
   obtain⟨rfl,rfl⟩:=hdegs hg
   obtain⟨rfl,rfl⟩:=hedges hg
   obtain⟨rfl,rfl⟩:=htext hg
   obtain⟨wE,wc,hwE,_,wi,hw⟩:=edges_both cm cr
   obtain⟨rfl,rfl⟩:=hw hG2
   have el:=edgesTo_length b cm.toNat
   have wl:=edgesTo_length cr cm.toNat
   have e1:sm (fun v=>deg b v) cm.toNat=wrap64 (2*((edgesTo b cm.toNat).length:Int)):=by rw[deg_sum hg,w64 (by omega) (by omega)]
   have e2:wrap64 (((edgesTo b cm.toNat).length:Int)+((edgesTo cr cm.toNat).length:Int))=wrap64 (Int.tdiv (wrap64 (cm*wrap64 (cm-1))) 2):=by
    have p:=all_pairs hg hcomp
    have q:0≤cm*(cm-1):=Int.mul_nonneg (by omega) (by omega)
    have q2:cm*(cm-1)≤62*62:=Int.mul_le_mul (by omega) (by omega) (by omega) (by omega)
    rw[w64 (a:=cm-1) (by omega) (by omega),w64 (a:=cm*(cm-1)) (by omega) (by omega),Int.tdiv_eq_ediv_of_nonneg q,w64 (by omega) (by omega),w64 (by omega) (by omega)]
    omega
   exact ev_pos z (Ev.bind bE (Ev.bind ui (Ev.bind zi (Ev.bind (graph_edges hg) (Ev.bind ti (Ev.bind (parse_text hg) (Ev.bind wi (ev_pos rfl (ev_pos rfl (ev_pos rfl (ev_pos rfl (ev_pos rfl (ev_pos rfl (ev_pos rfl (Ev.bind (graphs_self _ b (by omega)) (ev_pos rfl (Ev.bind (sum_degs b (by omega) n2) (ev_pos e1 (Ev.bind (graphs_self _ b (by omega)) (ev_pos rfl (Ev.bind (graphs_self _ b (by omega)) (ev_pos rfl (ev_pos e2 h1)))))))))))))))))))))))
  ·exact ev_neg z h1
 have hIs:∃b:Bool,Ev (fun k=>Qae.f k gn gr) b∧Ev (fun k=>Qdg.f k gn gr) b:=by
  unfold Qdg.f
  by_cases hg:isG gn gr
  ·exact⟨true,(i_is gn gr).yes hg,Ev.bind ((s_is gn gr).yes hg) (Ev.now _)⟩
  ·exact⟨false,(i_is gn gr).no hg,Ev.bind ((s_is gn gr).no hg) (Ev.now _)⟩
 obtain⟨b,hi,hs⟩:=hIs
 refine Ev.bind d1 (Ev.bind ci (Ev.bind cs (ev_pos rfl (Ev.bind (graphs_self cm cr (by omega)) (ev_pos rfl (Ev.bind hi (Ev.bind hs ?_)))))))
 rw[bne_self_eq_false]
 exact h0
end Go.Proofs.YtmofdldplbplbaaGreatDoor.Pure
