-- Printed by a program of this workplace (wip/xp/xp.py), joined by wip/bin/mergeP.
import Derived.Test.YtmofdldplbplbaaDoorMFA0
namespace Go.Proofs.YtmofdldplbplbaaDoor.P
open Go.RowKit Go.Proofs.YtmofdldplbplbaaDoorW.PrintWords Go.Proofs.YtmofdldplbplbaaDoorW.PrintLast Go.Proofs.YtmofdldplbplbaaDoorW.PrintMore
attribute [local go_sem] max2_int min2_int max_two min_two max_three min_three max_four min_four
set_option linter.unusedVariables false
set_option linter.unusedSimpArgs false
def Qcy.f (l0:List Int):Option (Bool):=some (decide ((l0.length:Int)>4096))
set_option maxHeartbeats 8000000 in
set_option maxRecDepth 100000 in
theorem Qcy.calls (A0:Option Addr) (c0:Nat) (l0:List Int) (r:Bool) (w:World) (b:Kd.C (Kd.int .u8) w A0 l0.length l0) (a:l0.length≤c0) (h:Qcy.f l0=some r) :
    Calls Tryd.prog 7 #[.slice A0 l0.length c0] w fun e w'=>e=.returned (.bool r)∧Drawn0 w w':=by
  (have d:=Am b);have c:=Am a;clear b a;(have H:(some (decide ((l0.length:Int)>4096)))=some r:=h);clear h;obtain rfl:=Option.some.inj H;(go_enter Tryd.func7,Tryd.ntmps7);go_wp2;go_ret;(exact⟨by first|rfl|(simp;done)|(simp[*];done),by repeat(first|exact Drawn0.refl _|apply Drawn0.step)⟩)
def Qbl.l0:Nat→List Int→List Int→Int→Option (Bool)
  |0,_,_,_=>none
  |k+1,x0,x1,x5=>if x5<(x0.length:Int)then(if 0≤x5 then(if x5<(x1.length:Int)then(if(rd x0 x5)=(rd x1 x5)then(Qbl.l0 k x0 x1 (wrap64 (x5+1)))else(some false))else(none))else(none))else(some true)
def Qbl.f (k:Nat) (l0:List Int) (l1:List Int):Option (Bool):=if(l0.length:Int)=(l1.length:Int)then(Qbl.l0 k l0 l1 0)else(some false)
set_option maxHeartbeats 8000000 in
set_option maxRecDepth 100000 in
theorem Qbl.calls (k:Nat) (A0:Option Addr) (c0:Nat) (l0:List Int) (A1:Option Addr) (c1:Nat) (l1:List Int) (r:Bool) (w:World) (a0:Kd.C (Kd.int .i64) w A0 l0.length l0) (y:l0.length≤c0) (a1:Kd.C (Kd.int .i64) w A1 l1.length l1) (z:l1.length≤c1) (h:Qbl.f k l0 l1=some r) :
    Calls Tryd.prog 11 #[.slice A0 l0.length c0,.slice A1 l1.length c1] w fun e w'=>e=.returned (.bool r)∧Drawn0 w w':=by
  (have v:=Am a0);have a7:=Am y;clear a0 y;have x:=Am a1;have a8:=Am z;clear a1 z;(have H:(if(l0.length:Int)=(l1.length:Int)then(Qbl.l0 k l0 l1 0)else(some false))=some r:=h);clear h;replace H:=Yp H;(obtain⟨c3,H⟩|⟨c3,H⟩:=H)
  · obtain⟨n,o⟩:=Yv c3
    (have p:(l0.length==l1.length)=true:=by first|simpa using c3|(simp at c3 ⊢;omega));clear c3;have H':=Am H;clear H;(go_enter Tryd.func11,Tryd.ntmps11);go_wp2;(repeat(go_quiet(fail);try go_wp2));(go_loopg[5] k (fun kq v5 w'=>∃(a:Int),v5=.int .i64 a∧Aside0 (Qbl.l0 kq l0 l1 a=some r)∧Aside0 (kq≤k)∧Drawn0 w w'));(case atStart=>exact⟨(0),Yk,H',⟨Nat.le_refl _⟩,by repeat(first|exact Drawn0.refl _|apply Drawn0.step)⟩)
    case round=>
      (clear H');(try clear n);(try clear o);(try clear p);(obtain⟨a,rfl,HA,t,⟨m1,rfl⟩⟩:=hrel)
      cases gk with
      |zero=>exact absurd HA.out (by simp[Qbl.l0])
      |succ k1=>
        (have H:=HA.out);clear HA;simp only[Qbl.l0]at H;replace H:=Yp H;(obtain⟨c4,H⟩|⟨c4,H⟩:=H);(· (have a2:=decide_eq_true c4);clear c4;replace H:=Dn2 H;obtain⟨a5,a6,H⟩:=H;replace H:=Yp H;(obtain⟨c7,H⟩|⟨c7,H⟩:=H);(· (obtain⟨a3,a4⟩:=Yv c7);clear c7;have H':=Am H;clear H;have b:0≤(a:Int):=Ym;have d:a<(l0.length:Int):=Ym;obtain⟨q,i,l⟩:=Kd.at_int v.out a b d;cases i;replace b:=eq_true b;replace d:=eq_true d;have c:0≤(a:Int):=Ym;have g:a<(l1.length:Int):=Ym;obtain⟨s,j,m⟩:=Kd.at_int x.out a c g;cases j;replace c:=eq_true c;replace g:=eq_true g;go_wp2;(repeat(go_quiet(fail);try go_wp2));(go_roundg k1);(case measure=>have:=t.out;omega);(case rel=>exact⟨(wrap64 (a+1)),Yk,H',⟨by have:=t.out;omega⟩,by repeat(first|exact Drawn0.refl _|apply Drawn0.step)⟩));(· (obtain⟨a3,a4⟩:=Yw c7);obtain rfl:=Option.some.inj H;have b:0≤(a:Int):=Ym;have d:a<(l0.length:Int):=Ym;obtain⟨q,i,l⟩:=Kd.at_int v.out a b d;cases i;replace b:=eq_true b;replace d:=eq_true d;have c:0≤(a:Int):=Ym;have g:a<(l1.length:Int):=Ym;obtain⟨s,j,m⟩:=Kd.at_int x.out a c g;cases j;replace c:=eq_true c;replace g:=eq_true g;go_wp2;(repeat(go_quiet(fail);try go_wp2));go_ret;(exact⟨by first|rfl|(simp;done)|(simp[*];done),by repeat(first|exact Drawn0.refl _|apply Drawn0.step)⟩)));(· (have a2:=decide_eq_false c4);clear c4;obtain rfl:=Option.some.inj H;go_wp2;(repeat(go_quiet(fail);try go_wp2));go_ret;(exact⟨by first|rfl|(simp;done)|(simp[*];done),by repeat(first|exact Drawn0.refl _|apply Drawn0.step)⟩))
  · obtain⟨n,o⟩:=Yw c3
    (have p:(l0.length==l1.length)=false:=by first|simpa using c3|(simp at c3 ⊢;omega));obtain rfl:=Option.some.inj H;(go_enter Tryd.func11,Tryd.ntmps11);go_wp2;(repeat(go_quiet(fail);try go_wp2));go_ret;(exact⟨by first|rfl|(simp;done)|(simp[*];done),by repeat(first|exact Drawn0.refl _|apply Drawn0.step)⟩)
theorem Qby.key (x a:Nat) (hx:x<18446744073709551616) (hlow:x &&& (18446744073709551616-x)=a) (b:x≠0) :
    IntKind.u64.wrap (bits BinOp.and IntKind.u64 (x:Int) (IntKind.u64.wrap (-(x:Int)))*285870213051353865)/288230376151711744=((a*285870213051353865 % 18446744073709551616/288230376151711744:Nat):Int):=by
  have e1:IntKind.u64.wrap (-(x:Int))=((18446744073709551616-x:Nat):Int):=by rw[IntKind.wrap_u64];omega
  rw[e1,bits_and_u64_nat x _ hx (by omega),hlow,IntKind.wrap_u64]
  omega
theorem Qby.all (x:Nat) (hx:x<18446744073709551616) (a:x≠0) (w:World) (hT:TabW w):∃idx kk:Int,0≤idx∧idx<64∧IntKind.u64.wrap (bits BinOp.and IntKind.u64 (x:Int) (IntKind.u64.wrap (-(x:Int)))*285870213051353865)/288230376151711744=idx∧w.cell? ⟨0,idx.toNat,none⟩=some (.int .u8 kk)∧((Lib.ctz 64 x:Nat):Int)=kk∧0≤kk∧kk<64:=by
  obtain⟨hlow,hk⟩:=Lib.lowest_bit 64 x a hx
  obtain⟨hi,htab⟩:=Lib.deBruijn64_at _ hk
  have hcell:=hT _ hi
  rw[htab]at hcell
  have key:=Qby.key x _ hx hlow a
  generalize Lib.ctz 64 x=k at *
  generalize 2 ^ k*285870213051353865 % 18446744073709551616/288230376151711744=idx at *
  exact⟨idx,k,by omega,by omega,key,by rw[Int.toNat_natCast];exact hcell,rfl,by omega,by omega⟩
def Qby.f (a0:Int):Option (Int):=if 0≤a0 then if a0<18446744073709551616 then some ((Lib.ctz 64 a0.toNat:Nat):Int)else none else none
set_option maxHeartbeats 8000000 in
set_option maxRecDepth 100000 in
theorem Qby.calls (a0:Int) (r:Int) (w:World) (hT:TabW w) (h:Qby.f a0=some r) :
    Calls Tryd.prog 166 #[.int .u64 a0] w fun e w'=>e=.returned (.int .i64 r)∧Drawn0 w w':=by
  unfold Qby.f at h
  split at h
  case isFalse=>cases h
  case isTrue h0=>
  split at h
  case isFalse=>cases h
  case isTrue h1=>
  obtain rfl:=Option.some.inj h
  clear h
  by_cases a:a0=0
  · subst a
    go_enter Tryd.func166,Tryd.ntmps166
    go_wp2
    go_ret
    exact⟨rfl,Drawn0.refl _⟩
  · have ha:=Qby.all a0.toNat (by omega) (by omega) w hT
    rw[Int.toNat_of_nonneg h0]at ha
    obtain⟨idx,kk,i0,i1,key,hcell,e,k0,k1⟩:=ha
    rw[e]
    have b:(a0==0)=false:=by simpa using a
    have kw:IntKind.i64.wrap kk=kk:=by rw[IntKind.wrap_i64];omega
    have KEY:=Am key
    have p0:=eq_true i0
    have p1:=eq_true i1
    clear key hT a e h0 h1 i0 i1 k0 k1
    go_enter Tryd.func166,Tryd.ntmps166
    go_wp2_with(simp only[KEY.out])
    go_ret
    exact⟨rfl,Drawn0.refl _⟩
def Qbv.l0:Nat→Int→List Int→Option (List Int)
  |0,_,_=>none
  |k+1,x0,x3=>if x0=0 then(some x3)else((Qby.f (IntKind.u64.wrap (x0))).bind fun a=>(if x3.length<17592186044416 then(Qbv.l0 k (Go.bits .and .i64 x0 (wrap64 (x0-1))) (x3++[a]))else(none)))
def Qbv.f (k:Nat) (a0:Int):Option (List Int):=Qbv.l0 k a0 (([]:List Int))
set_option maxHeartbeats 8000000 in
set_option maxRecDepth 100000 in
theorem Qbv.calls (k:Nat) (a0:Int) (r:List Int) (w:World) (hT:TabW w) (h:Qbv.f k a0=some r) :
    Calls Tryd.prog 99 #[.int .i64 a0] w fun e w'=>∃x:Value,e=.returned (x)∧Kd.R (Kd.int .i64) 2 w' w.heap.size (fun _=>True) x r∧Below w.heap.size w w':=by
  (have HT:=Am hT);clear hT;have HB:=Am (Below.refl w.heap.size w);(have H:(Qbv.l0 k a0 (([]:List Int)))=some r:=h);clear h;(obtain⟨o,c⟩:∃y_:List Int,y_=(([]:List Int)):=⟨_,rfl⟩);(replace H:(Qbv.l0 k a0 o)=some r:=by first|(rw[c];with_reducible exact H)|(have n:=(Option.bind_some _ _).symm.trans H;rw[c];with_reducible exact n)|(have n:=(Option.bind_some _ _).symm.trans H;with_reducible exact n)|with_reducible exact H|(rw[c];exact H)|exact H);have l:=Am c;clear c;have H':=Am H;clear H;(go_enter Tryd.func99,Tryd.ntmps99);(go_wp2_with(first|((with_reducible refine gate_dst (N:=4) rfl ?_);refine Kd.R_lit (Kd.int .i64) _ 2 ?hg (N:=4) ?hd (xs:=([]:List Int)) (inner:=[]) (ok:=fun _=>True) (okp:=fun _=>True) ?hr ?hp (fun _ hk=>hk) trivial (Below.refl _ _) (Nat.le_refl _) (by simp) ?_;(case hd=>rfl);(case hg=>rfl);(case hr=>first|(go_simp;done)|(go_simp;rfl));(case hp=>exact(Reps.none _ _));intro a3 w2 i hb hg_ hnew_;clear hg_ hnew_;(first|rw[← l.out]at i|(simp only[Int.reduceToNat]at i;rw[← l.out]at i));have p:=Am (Kd.R_lower i (below_size (Ya)));replace HB:=Zs hb;clear hb i)));(go_loopg[0,3] k (fun kq v0 v3 w'=>∃(a:Int) (d:List Int),v0=.int .i64 a∧Aside0 (Qbv.l0 kq a d=some r)∧Aside0 (kq≤k)∧Aside0 (Kd.R (Kd.int .i64) 2 w' w.heap.size (fun _=>True) v3 d)∧Aside0 (Below w.heap.size w w')));(case atStart=>exact⟨(a0),(o),Yk,H',⟨Nat.le_refl _⟩,⟨YcR p⟩,⟨Ya⟩⟩)
  case round=>
    (clear H');(obtain⟨a,d,rfl,HA,s,j,HB⟩:=hrel)
    cases gk with
    |zero=>exact absurd HA.out (by simp[Qbv.l0])
    |succ k1=>
      (have H:=HA.out);clear HA;simp only[Qbv.l0]at H;replace H:=Yp H;(obtain⟨c4,H⟩|⟨c4,H⟩:=H);(· (obtain⟨z,a1⟩:=Yv c4);clear c4;obtain rfl:=Option.some.inj H;go_wp2;go_ret;(exact⟨_,Yl,YcR j,Ya⟩))
      · obtain⟨z,a1⟩:=Yw c4
        (replace H:=Yq H);obtain⟨g,A5,H⟩:=H;replace H:=Ln H;obtain⟨y,H⟩:=H;obtain⟨a2,m⟩:=Ys (d++[g]:List Int);rw[← m.out]at H;have H':=Am H;clear H;(go_wp2_with(first|(refine Y5 166 (some 14) Tryd.func166 #[.int .u64 (IntKind.u64.wrap (a))] ?_;(with_reducible refine(Qby.calls (IntKind.u64.wrap (a)) g _ ?side1 A5.out).mono ?_);(case side1=>exact TabW.below HT.out (Ya));rintro e w' ⟨rfl,⟨nd,rfl⟩⟩;refine⟨_,rfl,?_⟩)|((with_reducible refine gate_builtin (b:=.append) (xs:=#[.tmp 11,.tmp 15]) rfl ?_);at_builtin;refine Kd.R_append (Kd.int .i64) (w0:=w) w.heap.size rfl (.tmp 11) (.tmp 15) 24 2 (.int .i64 0) 8 rfl Tryd.underlying24 info2 rfl (by decide) (by omega) u3 d g [.int .i64 g] (fun _=>True) (fun _=>False) rfl rfl ?aP (fun _ hk=>hk.elim) ?aF ?aO ?aB ?aS ?aL ?_;(case aP=>exact rfl);(case aB=>exact(Ya));(case aF=>exact(fun _ _=>trivial));(case aO=>exact(YcR j));(case aS=>exact(below_size (Ya)));(case aL=>have:=y.out;omega);intro a4 w7 ho hb hg hat;rw[← m.out]at ho;have t:=Am (hb);have v:=Am (ho);clear HB;clear j;have HB:=t;have q:=v;clear t v;clear ho hb hg hat)));(go_roundg k1);(case measure=>have:=s.out;omega);(case rel=>exact⟨(Go.bits .and .i64 a (wrap64 (a-1))),(a2),Yk,H',⟨by have:=s.out;omega⟩,⟨YcR q⟩,⟨Ya⟩⟩)
def Qcw.f (a0:Int) (a1:Int):Option (Int × Int):=some (IntKind.u64.wrap ((IntKind.u64.wrap ((IntKind.u64.wrap ((a0/4294967296)*(a1/4294967296)))+((IntKind.u64.wrap ((IntKind.u64.wrap ((a0/4294967296)*(Go.bits .and .u64 a1 4294967295)))+((IntKind.u64.wrap ((Go.bits .and .u64 a0 4294967295)*(Go.bits .and .u64 a1 4294967295)))/4294967296)))/4294967296)))+((IntKind.u64.wrap ((Go.bits .and .u64 (IntKind.u64.wrap ((IntKind.u64.wrap ((a0/4294967296)*(Go.bits .and .u64 a1 4294967295)))+((IntKind.u64.wrap ((Go.bits .and .u64 a0 4294967295)*(Go.bits .and .u64 a1 4294967295)))/4294967296))) 4294967295)+(IntKind.u64.wrap ((Go.bits .and .u64 a0 4294967295)*(a1/4294967296)))))/4294967296)),IntKind.u64.wrap (a0*a1))
set_option maxHeartbeats 8000000 in
set_option maxRecDepth 100000 in
theorem Qcw.calls (a0:Int) (a1:Int) (r1:Int) (r2:Int) (w:World) (h:Qcw.f a0 a1=some (r1,r2)) :
    Calls Tryd.prog 211 #[.int .u64 a0,.int .u64 a1] w fun e w'=>e=.returned (.tuple #[.int .u64 r1,.int .u64 r2])∧Drawn0 w w':=by
  (have H:(some (IntKind.u64.wrap ((IntKind.u64.wrap ((IntKind.u64.wrap ((a0/4294967296)*(a1/4294967296)))+((IntKind.u64.wrap ((IntKind.u64.wrap ((a0/4294967296)*(Go.bits .and .u64 a1 4294967295)))+((IntKind.u64.wrap ((Go.bits .and .u64 a0 4294967295)*(Go.bits .and .u64 a1 4294967295)))/4294967296)))/4294967296)))+((IntKind.u64.wrap ((Go.bits .and .u64 (IntKind.u64.wrap ((IntKind.u64.wrap ((a0/4294967296)*(Go.bits .and .u64 a1 4294967295)))+((IntKind.u64.wrap ((Go.bits .and .u64 a0 4294967295)*(Go.bits .and .u64 a1 4294967295)))/4294967296))) 4294967295)+(IntKind.u64.wrap ((Go.bits .and .u64 a0 4294967295)*(a1/4294967296)))))/4294967296)),IntKind.u64.wrap (a0*a1)))=some (r1,r2):=h);clear h;simp only[Option.some.injEq,Prod.mk.injEq]at H;obtain⟨rfl,rfl⟩:=H;(go_enter Tryd.func211,Tryd.ntmps211);go_wp2;(go_ret2);(exact⟨by first|rfl|(simp;done)|(simp[*];done),by repeat(first|exact Drawn0.refl _|apply Drawn0.step)⟩)
def Qcz.f (a0:Int) (a1:Int):Option (Int × Int):=(Qcw.f a0 a1).bind fun a=>(some (a.1,a.2))
set_option maxHeartbeats 8000000 in
set_option maxRecDepth 100000 in
theorem Qcz.calls (a0:Int) (a1:Int) (r1:Int) (r2:Int) (w:World) (h:Qcz.f a0 a1=some (r1,r2)) :
    Calls Tryd.prog 201 #[.int .u64 a0,.int .u64 a1] w fun e w'=>e=.returned (.tuple #[.int .u64 r1,.int .u64 r2])∧Drawn0 w w':=by
  (have H:((Qcw.f a0 a1).bind fun a=>(some (a.1,a.2)))=some (r1,r2):=h);clear h;replace H:=Yq H;obtain⟨⟨b,c⟩,A3,H⟩:=H;(try dsimp only at H);simp only[Option.some.injEq,Prod.mk.injEq]at H;obtain⟨rfl,rfl⟩:=H;(go_enter Tryd.func201,Tryd.ntmps201);(go_wp2_with(first|(refine Y5 211 (some 25) Tryd.func211 #[.int .u64 a0,.int .u64 a1] ?_;(with_reducible refine(Qcw.calls a0 a1 b c _ A3.out).mono ?_);rintro e w' ⟨rfl,⟨nd,rfl⟩⟩;refine⟨_,rfl,?_⟩)));(go_ret2);(exact⟨by first|rfl|(simp;done)|(simp[*];done),by repeat(first|exact Drawn0.refl _|apply Drawn0.step)⟩)
def Qbn.f (l0:List Int) (a1:Int):Option (List Int):=if l0.length=1 then(if 0≤a1 then(if a1≤1000000 then some (List.replicate a1.toNat (rd l0 0))else none)else none)else none
theorem Qbn.mul (c:Nat) (hc:c≤1000000):Qcz.f 1 (c:Int)=some (0,(c:Int)):=by
  have a1:bits .and .u64 (c:Int) 4294967295=(c:Int):=by
    rw[show(4294967295:Int)=((4294967295:Nat):Int) from rfl,bits_and_u64_nat c _ (by omega) (by decide)]
    have:=Nat.and_two_pow_sub_one_eq_mod c 32
    rw[show(2:Nat) ^ 32-1=4294967295 from rfl]at this
    rw[this]
    omega
  have a2:bits .and .u64 1 4294967295=1:=by decide
  have w0:∀z:Int,0≤z→z<18446744073709551616→IntKind.u64.wrap z=z:=fun z h0 h1=>by rw[IntKind.wrap_u64];omega
  have d1:(1:Int)/4294967296=0:=by decide
  have d2:(c:Int)/4294967296=0:=by omega
  have a3:bits .and .u64 0 4294967295=0:=by decide
  unfold Qcz.f Qcw.f
  simp only[a1,a2,d1,d2,Int.zero_mul,Int.mul_zero,Int.one_mul,w0 0 (by decide) (by decide),w0 (c:Int) (by omega) (by omega),Int.zero_add,Int.add_zero,a3,Int.zero_ediv,Option.bind_some]
set_option maxHeartbeats 8000000 in
set_option maxRecDepth 100000 in
theorem Qbn.calls (A0:Option Addr) (c0:Nat) (l0:List Int) (a1:Int) (r:List Int) (w:World) (p:Kd.C (Kd.int .i64) w A0 l0.length l0) (d:l0.length≤c0) (h:Qbn.f l0 a1=some r) :
    Calls Tryd.prog 167 #[.slice A0 l0.length c0,.int .i64 a1] w fun e w'=>∃q:Value,e=.returned (q)∧Kd.R (Kd.int .i64) 2 w' w.heap.size (fun _=>True) q r∧Below w.heap.size w w':=by
  unfold Qbn.f at h
  split at h
  case isFalse=>cases h
  case isTrue hl=>
  split at h
  case isFalse=>cases h
  case isTrue h0=>
  split at h
  case isFalse=>cases h
  case isTrue h1=>
  obtain⟨c,rfl⟩:=Int.eq_ofNat_of_zero_le h0
  obtain rfl:=Option.some.inj h
  rw[Int.toNat_natCast]
  obtain⟨ad,ea,hcell⟩:=Kd.at_int p 0 (by omega) (by omega)
  cases ea
  have hc:c≤1000000:=by omega
  rw[show ad.add (0:Int).toNat=ad.add 0 from rfl]at hcell
  generalize rd l0 0=v at *
  clear h h0 h1 p
  rw[hl]
  rw[hl]at d
  have x:=Am d
  clear d hl
  have hmul:=Qbn.mul c hc
  have hmk:=print_make (P:=Tryd.prog) 24 2 .i64 8 Tryd.underlying24 info2 (by decide) c (by omega)
  obtain⟨Z,hZ⟩:∃Z:List Value,madeCells #[.int .i64 0] c=Z.toArray∧Z.length=c:=⟨(madeCells #[.int .i64 0] c).toList,by simp,by simp[size_madeCells]⟩
  rw[hZ.1]at hmk
  have HZ:=Am hZ.2
  have HMUL:=Am hmul
  clear hZ hmul
  have cw:IntKind.u64.wrap (c:Int)=(c:Int):=by rw[IntKind.wrap_u64];omega
  have d9:decide (9223372036854775807<(c:Int))=false:=decide_eq_false (by omega)
  have c0':0≤(c:Int):=by omega
  have c1':(c:Int)≤1000000:=by omega
  go_enter Tryd.func167,Tryd.ntmps167
  obtain⟨X,hX⟩:∃X:List Value,X.length=Nat.min 1 c∧∀u ∈ X,u=.int .i64 v:=⟨if 0<c then[.int .i64 v]else[],by show _=min 1 c;split<;>simp<;>omega,by split<;>simp⟩
  have HX:=Am hX
  clear hX
  have hu:=Tryd.underlying24
  have hsz:(Tryd.prog.info? 2).map (·.size)=some 1:=by kernel_rfl
  have HSZ:=Am hsz
  clear hsz
  go_wp2_with fail
  refine(Qcz.calls 1 (c:Int) 0 (c:Int) _ HMUL.out).mono ?_
  rintro e w2 ⟨rfl,⟨nd,rfl⟩⟩
  go_wp2_with(refine wpList_copy_splice rfl (.tmp 31) (.tmp 32) 24 24 rfl 2 hu HSZ.out _ _ _ _ _ _ rfl rfl w.heap.size 0 Z 2 ?qg X HX.out.1 ?qp ?qf ?q1 w.heap.size w ?qb (Nat.le_refl _) ?_)
  case qp=>
    intro hpos
    intro j u hj
    have hjl:=(List.getElem?_eq_some_iff.1 hj).1
    have y:X.length=min 1 c:=HX.out.1
    have j0:j=0:=by omega
    subst j0
    have hu:=HX.out.2 u (List.mem_of_getElem? hj)
    rw[hu]
    have hlt:=World.block_lt_of_cell? w _ hcell
    exact(World.cell?_alloc_lt _ _ _ hlt).trans hcell
  case qf=>have e1:X.length=min 1 c:=HX.out.1;have:=HZ.out;omega
  case qg=>exact blk_new (w.drewN nd) (.cells Z.toArray 2)
  case q1=>intro u hu;rw[HX.out.2 u hu];rfl
  case qb=>exact⟨rfl,rfl,rfl,by simp,fun i hi=>by simp[World.alloc,Array.getElem?_push,Nat.ne_of_lt hi]⟩
  intro w3 m k
  obtain⟨k0,b⟩:∃k0:Nat,X.length=k0:=⟨_,rfl⟩
  have o:k0=min 1 c:=b.symm.trans HX.out.1
  have hcur:∃cur:List Value,cur.length=c∧w3.heap[w.heap.size]? =some (.cells cur.toArray 2 (0,0))∧∀j,j<k0→cur[j]? =some (.int .i64 v):=by
    refine⟨splice Z 0 X,?_,m.out,?_⟩
    · rw[length_splice _ _ _ (by have:=HZ.out;omega)]
      exact HZ.out
    · intro j hj
      have hjx:j<X.length:=by omega
      simp only[splice,List.take_zero,List.nil_append]
      rw[List.getElem?_append_left hjx,List.getElem?_eq_getElem hjx,HX.out.2 _ (List.getElem_mem hjx)]
  rw[b]
  have HCUR:=Am hcur
  have g:=Am k
  have HK:=Am o
  clear m k hcur b o
  go_wp2
  go_loopg[8] c (fun gg s8 wr=>∃kk:Nat,kk≤c∧c-kk≤gg∧s8=.int .i64 kk∧Aside0 (0<c→0<kk)∧Aside0 (∃cur:List Value,cur.length=c∧wr.heap[w.heap.size]? =some (.cells cur.toArray 2 (0,0))∧∀j,j<kk→cur[j]? =some (.int .i64 v))∧Aside0 (Below w.heap.size w wr))
  case atStart=>exact⟨k0,by have:=HK.out;omega,by omega,rfl,⟨fun h=>by have:=HK.out;omega⟩,HCUR,g⟩
  case round=>
    clear HCUR g HK
    obtain⟨kk,hkk,hg,rfl,HP,HC,HB⟩:=hrel
    by_cases hlt:kk<c
    · have hltz:(kk:Int)<(c:Int):=by omega
      have hkz:0≤(kk:Int):=by omega
      have hkl:(kk:Int)≤(c:Int):=by omega
      obtain⟨cur,hcl,hblk,hval⟩:=HC.out
      have HCL:=Am hcl
      have HBLK:=Am hblk
      have HVAL:=Am hval
      clear hcl hblk hval HC
      obtain⟨Y,hY⟩:∃Y:List Value,Y.length=Nat.min kk (c-kk)∧∀u ∈ Y,u=.int .i64 v:=⟨List.replicate (min kk (c-kk)) (.int .i64 v),List.length_replicate,by simp⟩
      have HY:=Am hY
      clear hY
      go_wp2
      have a:=Am (blk_drew HBLK.out)
      have s:=Am (below_drew HB.out)
      go_region_held3 (fun _=>True) (exact trivial) ((refine step_copy_splice rfl (.tmp 41) (.tmp 44) 24 24 rfl 2 hu HSZ.out _ _ _ _ _ _ rfl rfl w.heap.size kk cur 2 a.out Y HY.out.1 ?rp ?rf ?r1 w.heap.size w s.out (Nat.le_refl _) ?_;(case rf=>have e1:Y.length=min kk (c-kk):=HY.out.1;have:=HCL.out;omega);(case r1=>intro u hu;rw[HY.out.2 u hu];rfl);(case rp=>intro hpos;refine⟨if_neg (by omega),_,rfl,fun j u hj=>?_⟩;have hjl:=(List.getElem?_eq_some_iff.1 hj).1;have e1:Y.length=min kk (c-kk):=HY.out.1;rw[HY.out.2 u (List.mem_of_getElem? hj),add_plain];have hb:=blk_cell a.out j;rw[hb];have:=HVAL.out j (by omega);simpa using this);intro w4 n l))
      have e1:Y.length=min kk (c-kk):=HY.out.1
      have b:=HP.out (by omega)
      have hw:IntKind.i64.wrap ((kk:Int)+(Y.length:Int))=((kk+Y.length:Nat):Int):=by rw[IntKind.wrap_i64];omega
      have hnew:∃cur:List Value,cur.length=c∧w4.heap[w.heap.size]? =some (.cells cur.toArray 2 (0,0))∧∀j,j<kk+Y.length→cur[j]? =some (.int .i64 v):=by
        refine⟨splice cur kk Y,?_,n.out,?_⟩
        · rw[length_splice _ _ _ (by have:=HCL.out;omega)]
          exact HCL.out
        · intro j hj
          have hcl:=HCL.out
          simp only[splice]
          by_cases h1:j<kk
          · rw[List.getElem?_append_left (by simp;omega),List.getElem?_take_of_lt h1]
            exact HVAL.out j h1
          · rw[List.getElem?_append_right (by simp;omega),List.getElem?_append_left (by simp;omega),List.getElem?_eq_getElem (by simp;omega),HY.out.2 _ (List.getElem_mem _)]
      have HNEW:=Am hnew
      have t:=Am l
      have E1:=Am e1
      rw[hw]
      clear hnew l n hw e1
      go_wp2
      go_roundg(c-(kk+Y.length))
      case measure=>have:=E1.out;omega
      case rel=>exact⟨kk+Y.length,by have:=E1.out;omega,by omega,rfl,⟨fun _=>by omega⟩,HNEW,t⟩
    · have hltz:¬(kk:Int)<(c:Int):=by omega
      have hkc:kk=c:=by omega
      have HKC:=Am hkc
      clear hkc
      go_wp2
      go_ret
      obtain⟨cur,hcl,hblk,hval⟩:=HC.out
      refine⟨_,rfl,?_,HB.out⟩
      have ecur:cur=encs (Value.int .i64) (List.replicate c v):=by
        refine List.ext_getElem? fun j=>?_
        by_cases hj:j<c
        · rw[hval j (by have:=HKC.out;omega)]
          simp[encs,hj]
        · rw[List.getElem?_eq_none (by omega),List.getElem?_eq_none (by simp[encs];omega)]
      refine Kd.R_of_own ⟨by simp[encs],.inr ⟨w.heap.size,c,cur.toArray,by simp,Nat.le_refl _,hblk,by simp,by unfold maxLen;omega,by simp[hcl],?_⟩⟩ (fun _ _=>trivial)
      show cur.toArray.toList.take ((List.replicate c v).length*1)=_
      rw[List.length_replicate,Nat.mul_one]
      refine Eq.trans ?_ ecur
      exact List.take_of_length_le (by simp;omega)
mutual
def Qar.l0:Nat→List Int→Int→Int→Int→Int→List Int→Option (List Int)
  |0,_,_,_,_,_,_=>none
  |k+1,x5,x6,x7,x8,a,b=>if x7=0 then(some x5)else((Qbv.f k x7).bind fun c=>(Qar.l1 k x5 x6 x8 0 c (c.length:Int) 0 a b))
def Qar.l1:Nat→List Int→Int→Int→Int→List Int→Int→Int→Int→List Int→Option (List Int)
  |0,_,_,_,_,_,_,_,_,_=>none
  |k+1,x5,x6,x8,x9,c,e,b,d,a=>if b<e then(if 0≤b then(if b<(c.length:Int)then(if 0≤(rd c b)then(if(rd c b)<(x5.length:Int)then(if(rd c b)<(a.length:Int)then(Qar.l1 k (x5.set ((rd c b):Int).toNat x8) x6 x8 (Go.bits .or .i64 x9 (rd a (rd c b))) c e (wrap64 (b+1)) d a)else(none))else(none))else(none))else(none))else(none))else(Qar.l0 k x5 (Go.bits .or .i64 x6 x9) (Go.bits .andNot .i64 x9 x6) (wrap64 (x8+1)) d a)
end
def Qar.f (k:Nat) (a:Int) (b:List Int) (a1:Int):Option (List Int):=(Qbn.f (([(-1)]:List Int)) a).bind fun c=>(if 0≤a1 then(Qar.l0 k c (shl .i64 1 a1) (shl .i64 1 a1) 0 a b)else(none))
set_option maxHeartbeats 8000000 in
set_option maxRecDepth 100000 in
theorem Qar.calls (k:Nat) (o:Int) (b0:Option Addr) (b1:Nat) (l:List Int) (a1:Int) (r:List Int) (w:World) (g1:Kd.C (Kd.int .i64) w b0 l.length l) (g0:l.length≤b1) (hT:TabW w) (h:Qar.f k o l a1=some r) :
    Calls Tryd.prog 100 #[.agg #[.int .i64 o,.slice b0 l.length b1],.int .i64 a1] w fun e w'=>∃h9:Value,e=.returned (h9)∧Kd.R (Kd.int .i64) 2 w' w.heap.size (fun _=>True) h9 r∧Below w.heap.size w w':=by
  (have m2:=Tryd.underlying26);have HT:=Am hT;clear hT;have e3:=Am g1;have i9:=Am g0;clear g1 g0;have HB:=Am (Below.refl w.heap.size w);(have H:((Qbn.f (([(-1)]:List Int)) o).bind fun b6=>(if 0≤a1 then(Qar.l0 k b6 (shl .i64 1 a1) (shl .i64 1 a1) 0 o l)else(none)))=some r:=h);clear h;(obtain⟨f2,a2⟩:=Ys (([(-1)]:List Int)));rw[← a2.out]at H;replace H:=Yq H;obtain⟨b6,A3,H⟩:=H;replace H:=En H;obtain⟨g6,g7,H⟩:=H;obtain⟨h8,d4⟩:=Yt (shl .i64 1 a1);(try simp only[d4]at H A3);obtain⟨k7,l9,k8,k9,l8,l7⟩:=Yu d4;have g8:=eq_true (Ym:0≤a1);have H':=Am H;clear H;(go_enter Tryd.func100,Tryd.ntmps100);(go_wp2_with(first|(refine Y4 2 #[.int .i64 o,.slice b0 l.length b1] 26 ?_;intro d0 hg w8 hbox hb;have a:=Am (hbox);have f4:=Yge HB hg;have f3:=Yge HB hg;replace HB:=Zs hb;clear hb hbox hg)|((with_reducible refine gate_dst (N:=12) rfl ?_);refine Kd.R_lit (Kd.int .i64) _ 2 ?hg (N:=12) ?hd (xs:=([(-1)]:List Int)) (inner:=[.int .i64 (-1)]) (ok:=fun _=>True) (okp:=fun _=>True) ?hr ?hp (fun _ hk=>hk) trivial (Below.refl _ _) (Nat.le_refl _) (by simp) ?_;(case hd=>rfl);(case hg=>rfl);(case hr=>first|(go_simp;done)|(go_simp;rfl));(case hp=>exact(Reps.one (show Kd.M (Kd.int .i64) _ _ _ (-1) [.int .i64 (-1)] from rfl) (Reps.none _ _)));intro h5 w9 n hb hg_ hnew_;clear hg_ hnew_;(first|rw[← a2.out]at n|(simp only[Int.reduceToNat]at n;rw[← a2.out]at n));have g:=Am (Kd.R_lower n (below_size (Ya)));replace a:=Zb a hb;replace HB:=Zs hb;clear hb n;obtain⟨a6,a7,a8,a9⟩:=Y2 a;obtain⟨g3,g9,d2⟩:=Kd.R_slice g.out;subst d2)|(go_at_call 167;(with_reducible refine(Qbn.calls _ _ f2 o b6 _ ?side1 ?side2 A3.out).mono ?_);(case side1=>exact Yg ((Kd.R_reads' g.out).2.2));(case side2=>exact(Kd.R_reads' g.out).2.1);rintro e i0 ⟨d5,rfl,m,hb⟩;have e2:=Am (Kd.R_lower (Kd.R_new' m (Kd.R_lt (YcR g))) (below_size (Ya)));replace g:=Zx g m hb;replace a:=Zb a hb;replace HB:=Zs hb;clear hb m)));(repeat(go_quiet(first|(refine Y4 2 #[.int .i64 o,.slice b0 l.length b1] 26 ?_;intro d0 hg w8 hbox hb;have a:=Am (hbox);have f4:=Yge HB hg;have f3:=Yge HB hg;replace HB:=Zs hb;clear hb hbox hg)|((with_reducible refine gate_dst (N:=12) rfl ?_);refine Kd.R_lit (Kd.int .i64) _ 2 ?hg (N:=12) ?hd (xs:=([(-1)]:List Int)) (inner:=[.int .i64 (-1)]) (ok:=fun _=>True) (okp:=fun _=>True) ?hr ?hp (fun _ hk=>hk) trivial (Below.refl _ _) (Nat.le_refl _) (by simp) ?_;(case hd=>rfl);(case hg=>rfl);(case hr=>first|(go_simp;done)|(go_simp;rfl));(case hp=>exact(Reps.one (show Kd.M (Kd.int .i64) _ _ _ (-1) [.int .i64 (-1)] from rfl) (Reps.none _ _)));intro h5 w9 n hb hg_ hnew_;clear hg_ hnew_;(first|rw[← a2.out]at n|(simp only[Int.reduceToNat]at n;rw[← a2.out]at n));have g:=Am (Kd.R_lower n (below_size (Ya)));replace a:=Zb a hb;replace HB:=Zs hb;clear hb n;obtain⟨a6,a7,a8,a9⟩:=Y2 a;obtain⟨g3,g9,d2⟩:=Kd.R_slice g.out;subst d2)|(go_at_call 167;(with_reducible refine(Qbn.calls _ _ f2 o b6 _ ?side1 ?side2 A3.out).mono ?_);(case side1=>exact Yg ((Kd.R_reads' g.out).2.2));(case side2=>exact(Kd.R_reads' g.out).2.1);rintro e i0 ⟨d5,rfl,m,hb⟩;have e2:=Am (Kd.R_lower (Kd.R_new' m (Kd.R_lt (YcR g))) (below_size (Ya)));replace g:=Zx g m hb;replace a:=Zb a hb;replace HB:=Zs hb;clear hb m));try go_wp2_with(first|(refine Y4 2 #[.int .i64 o,.slice b0 l.length b1] 26 ?_;intro d0 hg w8 hbox hb;have a:=Am (hbox);have f4:=Yge HB hg;have f3:=Yge HB hg;replace HB:=Zs hb;clear hb hbox hg)|((with_reducible refine gate_dst (N:=12) rfl ?_);refine Kd.R_lit (Kd.int .i64) _ 2 ?hg (N:=12) ?hd (xs:=([(-1)]:List Int)) (inner:=[.int .i64 (-1)]) (ok:=fun _=>True) (okp:=fun _=>True) ?hr ?hp (fun _ hk=>hk) trivial (Below.refl _ _) (Nat.le_refl _) (by simp) ?_;(case hd=>rfl);(case hg=>rfl);(case hr=>first|(go_simp;done)|(go_simp;rfl));(case hp=>exact(Reps.one (show Kd.M (Kd.int .i64) _ _ _ (-1) [.int .i64 (-1)] from rfl) (Reps.none _ _)));intro h5 w9 n hb hg_ hnew_;clear hg_ hnew_;(first|rw[← a2.out]at n|(simp only[Int.reduceToNat]at n;rw[← a2.out]at n));have g:=Am (Kd.R_lower n (below_size (Ya)));replace a:=Zb a hb;replace HB:=Zs hb;clear hb n;obtain⟨a6,a7,a8,a9⟩:=Y2 a;obtain⟨g3,g9,d2⟩:=Kd.R_slice g.out;subst d2)|(go_at_call 167;(with_reducible refine(Qbn.calls _ _ f2 o b6 _ ?side1 ?side2 A3.out).mono ?_);(case side1=>exact Yg ((Kd.R_reads' g.out).2.2));(case side2=>exact(Kd.R_reads' g.out).2.1);rintro e i0 ⟨d5,rfl,m,hb⟩;have e2:=Am (Kd.R_lower (Kd.R_new' m (Kd.R_lt (YcR g))) (below_size (Ya)));replace g:=Zx g m hb;replace a:=Zb a hb;replace HB:=Zs hb;clear hb m))));(go_loopg[6,7,8] k (fun kq v6 v7 v8 w'=>∃(e6:List Int) (b3:Int) (b7:Int) (x:Int),v6=.int .i64 b3∧v7=.int .i64 b7∧v8=.int .i64 x∧Aside0 (Qar.l0 kq e6 b3 b7 x o l=some r)∧Aside0 (kq≤k)∧Aside0 (Kd.R (Kd.int .i64) 2 w' w.heap.size (fun _=>True) d5 e6)∧Aside0 (w'.heap[d0]? =some (.cells #[.int .i64 o,(.slice b0 l.length b1)] 26 (0,0)))∧Aside0 (Below w.heap.size w w')));(case atStart=>exact⟨(b6),(h8),(h8),(0),(by first|rfl|(simp;done)|(simp only[← d4]<;>(first|rfl|simp))|(simp[*];done)),(by first|rfl|(simp;done)|(simp only[← d4]<;>(first|rfl|simp))|(simp[*];done)),Yk,H',⟨Nat.le_refl _⟩,⟨YbR (Kd.R_mono e2.out (fun _ hk=>trivial))⟩,⟨Ye a⟩,⟨Ya⟩⟩)
  case round=>
    (clear H');(try clear g6);(try clear g7);(try clear g8);(try clear a6);(try clear a7);(try clear a8);(try clear a9);(obtain⟨e6,b3,b7,x,rfl,rfl,rfl,HA,f5,d,a,HB⟩:=hrel)
    cases gk with
    |zero=>exact absurd HA.out (by simp[Qar.l0])
    |succ k1=>
      (have H:=HA.out);clear HA;simp only[Qar.l0]at H;replace H:=Yp H;(obtain⟨e7,H⟩|⟨e7,H⟩:=H);(· (obtain⟨f8,f9⟩:=Yv e7);clear e7;obtain rfl:=Option.some.inj H;go_wp2;(repeat(go_quiet(fail);try go_wp2));go_ret;(exact⟨_,by first|rfl|(simp[errW_none,errW_some]<;>rfl)|(simp only[← d4];first|rfl|(simp[errW_none,errW_some]<;>rfl))|(simp[*,errW_none,errW_some]<;>rfl),YcR d,Ya⟩))
      · obtain⟨f8,f9⟩:=Yw e7
        (replace H:=Yq H);obtain⟨c,g2,H⟩:=H;have H':=Am H;clear H;(go_wp2_with(first|(go_at_call 99;(with_reducible refine(Qbv.calls k1 b7 c _ ?side1 g2.out).mono ?_);(case side1=>exact TabW.below HT.out (Ya));rintro e i1 ⟨h6,rfl,m,hb⟩;have a5:=Am (Kd.R_lower (Kd.R_new' m (Kd.R_lt (YcR d))) (below_size (Ya)));replace d:=Zx d m hb;replace a:=Zb a hb;replace HB:=Zs hb;clear hb m;obtain⟨e1,b2,d3⟩:=Kd.R_slice a5.out;subst d3)));(repeat(go_quiet(first|(go_at_call 99;(with_reducible refine(Qbv.calls k1 b7 c _ ?side1 g2.out).mono ?_);(case side1=>exact TabW.below HT.out (Ya));rintro e i1 ⟨h6,rfl,m,hb⟩;have a5:=Am (Kd.R_lower (Kd.R_new' m (Kd.R_lt (YcR d))) (below_size (Ya)));replace d:=Zx d m hb;replace a:=Zb a hb;replace HB:=Zs hb;clear hb m;obtain⟨e1,b2,d3⟩:=Kd.R_slice a5.out;subst d3));try go_wp2_with(first|(go_at_call 99;(with_reducible refine(Qbv.calls k1 b7 c _ ?side1 g2.out).mono ?_);(case side1=>exact TabW.below HT.out (Ya));rintro e i1 ⟨h6,rfl,m,hb⟩;have a5:=Am (Kd.R_lower (Kd.R_new' m (Kd.R_lt (YcR d))) (below_size (Ya)));replace d:=Zx d m hb;replace a:=Zb a hb;replace HB:=Zs hb;clear hb m;obtain⟨e1,b2,d3⟩:=Kd.R_slice a5.out;subst d3))));(go_loopg[9,27] k1 (fun kq v9 i7 w'=>∃(s:List Int) (b4:Int) (b:Int),v9=.int .i64 b4∧i7=.int .i64 b∧Aside0 (Qar.l1 kq s b3 x b4 c (c.length:Int) b o l=some r)∧Aside0 (kq≤k1)∧Aside0 (Kd.R (Kd.int .i64) 2 w' w.heap.size (fun k_=>some k_≠((.slice e1 c.length b2):Value).ownBlock) d5 s)∧Aside0 (Kd.R (Kd.int .i64) 2 w' w.heap.size (fun k_=>some k_≠(d5:Value).ownBlock) (.slice e1 c.length b2) c)∧Aside0 (w'.heap[d0]? =some (.cells #[.int .i64 o,(.slice b0 l.length b1)] 26 (0,0)))∧Aside0 (Below w.heap.size w w')));(case atStart=>exact⟨(e6),(0),(0),Yk,Yk,H',⟨Nat.le_refl _⟩,⟨YbR (Kd.R_mono d.out (fun _ hk=>hk.2))⟩,⟨YbR (Kd.R_mono a5.out (fun _ hk=>hk.2))⟩,⟨Ye a⟩,⟨Ya⟩⟩)
        case round=>
          (clear H');(try clear g6);(try clear g7);(try clear g8);(try clear e7);(try clear f8);(try clear f9);(try clear a6);(try clear a7);(try clear a8);(try clear a9);(obtain⟨s,b4,b,rfl,rfl,HA,f6,d,i,a,HB⟩:=hrel)
          cases gk with
          |zero=>exact absurd HA.out (by simp[Qar.l1])
          |succ k2=>
            (have H:=HA.out);clear HA;simp only[Qar.l1]at H;replace H:=Yp H;(obtain⟨e8,H⟩|⟨e8,H⟩:=H);(· (have h7:=decide_eq_true e8);clear e8;replace H:=Dn3 H;obtain⟨k0,k3,k4,H⟩:=H;replace H:=Dn H;obtain⟨k5,H⟩:=H;(obtain⟨d6,b5⟩:∃y_:List Int,y_=(s.set ((rd c b):Int).toNat x):=⟨_,rfl⟩);(replace H:(if(rd c b)<(l.length:Int)then(Qar.l1 k2 d6 b3 x (Go.bits .or .i64 b4 (rd l (rd c b))) c (c.length:Int) (wrap64 (b+1)) o l)else(none))=some r:=by first|(rw[b5];with_reducible exact H)|(have g4:=(Option.bind_some _ _).symm.trans H;rw[b5];with_reducible exact g4)|(have g4:=(Option.bind_some _ _).symm.trans H;with_reducible exact g4)|with_reducible exact H|(rw[b5];exact H)|exact H);have e4:=Am b5;clear b5;replace H:=Dn H;obtain⟨k6,H⟩:=H;have H':=Am H;clear H;have f0:0≤(b:Int):=Ym;have f1:b<(c.length:Int):=Ym;obtain⟨e5,i2,i4⟩:=Kd.at_int (Kd.R_reads' i.out).2.2 b f0 f1;cases i2;replace f0:=eq_true f0;replace f1:=eq_true f1;have h3:0≤((rd c b):Int):=Ym;have h4:((rd c b):Int)<((s.length:Int):Int):=Ym;(obtain⟨q,a3,h0,h2,i3,m1,g5⟩:=Kd.R_form d.out (by omega));(first|cases h0|(injection h0 with ea_ en_ ec_;(first|subst ea_|(injection ea_ with ea_;subst ea_));subst ec_;clear en_));have e9:=Am h2;have m0:=Am g5;clear h2 i3 g5;obtain⟨i6,i5⟩:=Kd.R_celln 0 d.out ((rd c b):Int) h3 h4;replace h3:=eq_true h3;replace h4:=eq_true h4;have y:=Kd.R_putg d.out ((rd c b):Int) x;(go_wp2_with(first|((with_reducible refine gate_store (t:=2) (p:=34) rfl ?_);(try(rw[drewN_self wr];generalize hq_:World.drewN wr _=wr;have b8:=Am (Kd.R_at hq_ d.out);have b9:=Am (Kd.R_at hq_ i.out);have c0:=Am (blk_at hq_ a.out);have c1:=Am (below_at hq_ HB.out);clear hq_ d i a HB;have d:=b8;have i:=b9;have a:=c0;have HB:=c1;clear b8 b9 c0 c1;(try(have y:=Kd.R_putg d.out ((rd c b):Int) x))));refine store_event (t:=2) (p:=34) (v:=?vo_w26) (w1:=(wr.setCell ⟨q,((rd c b):Int).toNat,none⟩ (.int .i64 x))) ?hg ?ho ?hn ?hr ?_;(case ho=>rfl);(case hg=>rfl);(case hn=>rfl);(case hr=>first|(go_simp;done)|(go_simp;rfl));intro a4 hw;have hg:wr.grownBy a4 (some q):=(by rw[hw];exact y.2);have hp_:Kd.R (Kd.int .i64) 2 a4 w.heap.size (fun k_=>some k_≠(.slice (some e5) c.length b2:Value).ownBlock) (.slice (some ⟨q,0,none⟩) s.length a3) d6:=(by rw[hw,e4.out];exact y.1);clear y;replace i:=Am (Kd.R_after (v:=(.slice (some ⟨q,0,none⟩) s.length a3)) (v1:=(.slice (some ⟨q,0,none⟩) s.length a3)) (ok:=(fun _=>True)) (YbR (Kd.R_mono i.out (fun _ hk=>⟨trivial,hk⟩))) hg (.inl rfl));replace a:=Am (blk_grown (Ye a) hg (Kd.R_ne d.out a.out (by decide)));replace d:=Am (hp_);replace HB:=Am ((by rw[hw];exact below_set (HB.out) e9.out:Below w.heap.size w a4));clear hg hw hp_;obtain⟨d7,d8,d9,e0⟩:=Y2 a;have z:0≤((rd c b):Int):=Ym;have a0:(rd c b)<(l.length:Int):=Ym;obtain⟨f7,d1,j⟩:=Kd.at_int e3.out (rd c b) z a0;cases d1;replace j:=(HB.out.cell (World.block_lt_of_cell? _ _ j)).trans j;replace z:=eq_true z;replace a0:=eq_true a0)));(repeat(go_quiet(first|((with_reducible refine gate_store (t:=2) (p:=34) rfl ?_);(try(rw[drewN_self wr];generalize hq_:World.drewN wr _=wr;have b8:=Am (Kd.R_at hq_ d.out);have b9:=Am (Kd.R_at hq_ i.out);have c0:=Am (blk_at hq_ a.out);have c1:=Am (below_at hq_ HB.out);clear hq_ d i a HB;have d:=b8;have i:=b9;have a:=c0;have HB:=c1;clear b8 b9 c0 c1;(try(have y:=Kd.R_putg d.out ((rd c b):Int) x))));refine store_event (t:=2) (p:=34) (v:=?vo_w26) (w1:=(wr.setCell ⟨q,((rd c b):Int).toNat,none⟩ (.int .i64 x))) ?hg ?ho ?hn ?hr ?_;(case ho=>rfl);(case hg=>rfl);(case hn=>rfl);(case hr=>first|(go_simp;done)|(go_simp;rfl));intro a4 hw;have hg:wr.grownBy a4 (some q):=(by rw[hw];exact y.2);have hp_:Kd.R (Kd.int .i64) 2 a4 w.heap.size (fun k_=>some k_≠(.slice (some e5) c.length b2:Value).ownBlock) (.slice (some ⟨q,0,none⟩) s.length a3) d6:=(by rw[hw,e4.out];exact y.1);clear y;replace i:=Am (Kd.R_after (v:=(.slice (some ⟨q,0,none⟩) s.length a3)) (v1:=(.slice (some ⟨q,0,none⟩) s.length a3)) (ok:=(fun _=>True)) (YbR (Kd.R_mono i.out (fun _ hk=>⟨trivial,hk⟩))) hg (.inl rfl));replace a:=Am (blk_grown (Ye a) hg (Kd.R_ne d.out a.out (by decide)));replace d:=Am (hp_);replace HB:=Am ((by rw[hw];exact below_set (HB.out) e9.out:Below w.heap.size w a4));clear hg hw hp_;obtain⟨d7,d8,d9,e0⟩:=Y2 a;have z:0≤((rd c b):Int):=Ym;have a0:(rd c b)<(l.length:Int):=Ym;obtain⟨f7,d1,j⟩:=Kd.at_int e3.out (rd c b) z a0;cases d1;replace j:=(HB.out.cell (World.block_lt_of_cell? _ _ j)).trans j;replace z:=eq_true z;replace a0:=eq_true a0));try go_wp2_with(first|((with_reducible refine gate_store (t:=2) (p:=34) rfl ?_);(try(rw[drewN_self wr];generalize hq_:World.drewN wr _=wr;have b8:=Am (Kd.R_at hq_ d.out);have b9:=Am (Kd.R_at hq_ i.out);have c0:=Am (blk_at hq_ a.out);have c1:=Am (below_at hq_ HB.out);clear hq_ d i a HB;have d:=b8;have i:=b9;have a:=c0;have HB:=c1;clear b8 b9 c0 c1;(try(have y:=Kd.R_putg d.out ((rd c b):Int) x))));refine store_event (t:=2) (p:=34) (v:=?vo_w26) (w1:=(wr.setCell ⟨q,((rd c b):Int).toNat,none⟩ (.int .i64 x))) ?hg ?ho ?hn ?hr ?_;(case ho=>rfl);(case hg=>rfl);(case hn=>rfl);(case hr=>first|(go_simp;done)|(go_simp;rfl));intro a4 hw;have hg:wr.grownBy a4 (some q):=(by rw[hw];exact y.2);have hp_:Kd.R (Kd.int .i64) 2 a4 w.heap.size (fun k_=>some k_≠(.slice (some e5) c.length b2:Value).ownBlock) (.slice (some ⟨q,0,none⟩) s.length a3) d6:=(by rw[hw,e4.out];exact y.1);clear y;replace i:=Am (Kd.R_after (v:=(.slice (some ⟨q,0,none⟩) s.length a3)) (v1:=(.slice (some ⟨q,0,none⟩) s.length a3)) (ok:=(fun _=>True)) (YbR (Kd.R_mono i.out (fun _ hk=>⟨trivial,hk⟩))) hg (.inl rfl));replace a:=Am (blk_grown (Ye a) hg (Kd.R_ne d.out a.out (by decide)));replace d:=Am (hp_);replace HB:=Am ((by rw[hw];exact below_set (HB.out) e9.out:Below w.heap.size w a4));clear hg hw hp_;obtain⟨d7,d8,d9,e0⟩:=Y2 a;have z:0≤((rd c b):Int):=Ym;have a0:(rd c b)<(l.length:Int):=Ym;obtain⟨f7,d1,j⟩:=Kd.at_int e3.out (rd c b) z a0;cases d1;replace j:=(HB.out.cell (World.block_lt_of_cell? _ _ j)).trans j;replace z:=eq_true z;replace a0:=eq_true a0))));(go_roundg k2);(case measure=>have:=f5.out;have:=f6.out;omega);(case rel=>exact⟨(d6),(Go.bits .or .i64 b4 (rd l (rd c b))),(wrap64 (b+1)),Yk,Yk,H',⟨by have:=f5.out;have:=f6.out;omega⟩,⟨YcR d⟩,⟨YbR (Kd.R_mono i.out (fun _ hk=>hk.2))⟩,⟨Ye a⟩,⟨Ya⟩⟩))
            · have h7:=decide_eq_false e8
              clear e8;have H':=Am H;clear H;go_wp2;(repeat(go_quiet(fail);try go_wp2));(go_roundg k2);(case measure=>have:=f5.out;have:=f6.out;omega);(case rel=>exact⟨(s),(Go.bits .or .i64 b3 b4),(Go.bits .andNot .i64 b4 b3),(wrap64 (x+1)),Yk,Yk,Yk,H',⟨by have:=f5.out;have:=f6.out;omega⟩,⟨YbR (Kd.R_mono d.out (fun _ hk=>trivial))⟩,⟨Ye a⟩,⟨Ya⟩⟩)
def Qay.l0:Nat→List Int→Int→Int→Option (Int)
  |0,_,_,_=>none
  |k+1,x0,x3,x4=>if x4<(x0.length:Int)then(if 0≤x4 then(Qay.l0 k x0 (mx x3 (rd x0 x4)) (wrap64 (x4+1)))else(none))else(some x3)
def Qay.f (k:Nat) (l0:List Int):Option (Int):=if(l0.length:Int)<1 then(none)else(if 0<(l0.length:Int)then(Qay.l0 k l0 (rd l0 0) 1)else(none))
set_option maxHeartbeats 8000000 in
set_option maxRecDepth 100000 in
theorem Qay.calls (k:Nat) (A0:Option Addr) (c0:Nat) (l0:List Int) (r:Int) (w:World) (t:Kd.C (Kd.int .i64) w A0 l0.length l0) (s:l0.length≤c0) (h:Qay.f k l0=some r) :
    Calls Tryd.prog 101 #[.slice A0 l0.length c0] w fun e w'=>e=.returned (.int .i64 r)∧Below w.heap.size w w':=by
  (have q:=Am t);have a7:=Am s;clear t s;have HB:=Am (Below.refl w.heap.size w);(have H:(if(l0.length:Int)<1 then(none)else(if 0<(l0.length:Int)then(Qay.l0 k l0 (rd l0 0) 1)else(none)))=some r:=h);clear h;replace H:=Yo H;obtain⟨c2,H⟩:=H;have x:decide ((l0.length:Int)<1)=false:=decide_eq_false c2;(have y:decide (l0.length<1)=false:=decide_eq_false (by omega));clear c2;replace H:=Yn H;obtain⟨c3,H⟩:=H;have z:decide (0<(l0.length:Int))=true:=decide_eq_true c3;(have a0:decide (0<l0.length)=true:=decide_eq_true (by omega));clear c3;have H':=Am H;clear H;(have g:0≤(0:Int):=(by omega));have i:0<(l0.length:Int):=Ym;obtain⟨n,a2,b⟩:=Kd.at_int q.out 0 g i;cases a2;(have a5:(0<l0.length)=True:=eq_true (by omega));(try rw[show((0:Int)).toNat=0 from rfl]at b);(try rw[Addr.add_zero']at b);replace g:=eq_true g;replace i:=eq_true i;(go_enter Tryd.func101,Tryd.ntmps101);go_wp2;(go_loopg[3,4] k (fun kq v3 v4 w'=>∃(d:Int) (a:Int),v3=.int .i64 d∧v4=.int .i64 a∧Aside0 (Qay.l0 kq l0 d a=some r)∧Aside0 (kq≤k)∧Aside0 (Below w.heap.size w w')));(case atStart=>exact⟨(rd l0 0),(1),Yk,Yk,H',⟨Nat.le_refl _⟩,⟨Ya⟩⟩)
  case round=>
    (clear H');(try clear x);(try clear y);(try clear z);(try clear a0);(try clear b);(try clear g);(try clear i);(obtain⟨d,a,rfl,rfl,HA,p,HB⟩:=hrel)
    cases gk with
    |zero=>exact absurd HA.out (by simp[Qay.l0])
    |succ k1=>
      (have H:=HA.out);clear HA;simp only[Qay.l0]at H;replace H:=Yp H;(obtain⟨c4,H⟩|⟨c4,H⟩:=H);(· (have a1:=decide_eq_true c4);clear c4;replace H:=Dn H;obtain⟨a6,H⟩:=H;obtain⟨v,j⟩:=Yt (mx d (rd l0 a));(try simp only[j]at H);(have a4:(if d<(rd l0 a)then(rd l0 a)else d)=v:=j);have H':=Am H;clear H;have l:0≤(a:Int):=Ym;have m:a<(l0.length:Int):=Ym;obtain⟨o,a3,c⟩:=Kd.at_int q.out a l m;(obtain rfl:n=o:=(by injection a3));replace c:=(HB.out.cell (World.block_lt_of_cell? _ _ c)).trans c;replace l:=eq_true l;replace m:=eq_true m;go_wp2;(go_roundg k1);(case measure=>have:=p.out;omega);(case rel=>exact⟨(v),(wrap64 (a+1)),(by first|rfl|(simp;done)|(simp only[← j]<;>(first|rfl|simp))|(simp[*];done)),Yk,H',⟨by have:=p.out;omega⟩,⟨Ya⟩⟩))
      · have a1:=decide_eq_false c4
        clear c4;obtain rfl:=Option.some.inj H;go_wp2;go_ret;(exact⟨Yl,Ya⟩)
end Go.Proofs.YtmofdldplbplbaaDoor.P
