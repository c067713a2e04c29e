-- Printed by a program of this workplace (wip/xp/xp.py), joined by wip/bin/mergeP.
import Derived.Test.YtmofdldplbplbaaDoorMFD0
namespace Go.Proofs.YtmofdldplbplbaaDoor.P
open Go.RowKit Go.Proofs.YtmofdldplbplbaaDoorW.PrintWords Go.Proofs.YtmofdldplbplbaaDoorW.PrintLast Go.Proofs.YtmofdldplbplbaaDoorW.PrintMore
attribute [local go_sem] max2_int min2_int max_two min_two max_three min_three max_four min_four
set_option linter.unusedVariables false
set_option linter.unusedSimpArgs false
def Qdj.f (l0:List Int):Option (Bool):=some (decide ((l0.length:Int)>4096))
set_option maxHeartbeats 8000000 in
set_option maxRecDepth 100000 in
theorem Qdj.calls (A0:Option Addr) (c0:Nat) (l0:List Int) (r:Bool) (w:World) (b:Kd.C (Kd.int .u8) w A0 l0.length l0) (a:l0.length≤c0) (h:Qdj.f l0=some r) :
    Calls Tryd.prog 7 #[.slice A0 l0.length c0] w fun e w'=>e=.returned (.bool r)∧Drawn0 w w':=by
  (have d:=Am b);have c:=Am a;clear b a;(have H:(some (decide ((l0.length:Int)>4096)))=some r:=h);clear h;obtain rfl:=Option.some.inj H;(go_enter Tryd.func7,Tryd.ntmps7);go_wp2;go_ret;(exact⟨by first|rfl|(simp;done)|(simp[*];done),by repeat(first|exact Drawn0.refl _|apply Drawn0.step)⟩)
def Qbt.l0:Nat→List Int→List Int→Int→Option (Bool)
  |0,_,_,_=>none
  |k+1,x0,x1,x5=>if x5<(x0.length:Int)then(if 0≤x5 then(if x5<(x1.length:Int)then(if(rd x0 x5)=(rd x1 x5)then(Qbt.l0 k x0 x1 (wrap64 (x5+1)))else(some false))else(none))else(none))else(some true)
def Qbt.f (k:Nat) (l0:List Int) (l1:List Int):Option (Bool):=if(l0.length:Int)=(l1.length:Int)then(Qbt.l0 k l0 l1 0)else(some false)
set_option maxHeartbeats 8000000 in
set_option maxRecDepth 100000 in
theorem Qbt.calls (k:Nat) (A0:Option Addr) (c0:Nat) (l0:List Int) (A1:Option Addr) (c1:Nat) (l1:List Int) (r:Bool) (w:World) (a0:Kd.C (Kd.int .i64) w A0 l0.length l0) (y:l0.length≤c0) (a1:Kd.C (Kd.int .i64) w A1 l1.length l1) (z:l1.length≤c1) (h:Qbt.f k l0 l1=some r) :
    Calls Tryd.prog 11 #[.slice A0 l0.length c0,.slice A1 l1.length c1] w fun e w'=>e=.returned (.bool r)∧Drawn0 w w':=by
  (have v:=Am a0);have a7:=Am y;clear a0 y;have x:=Am a1;have a8:=Am z;clear a1 z;(have H:(if(l0.length:Int)=(l1.length:Int)then(Qbt.l0 k l0 l1 0)else(some false))=some r:=h);clear h;replace H:=Yp H;(obtain⟨c3,H⟩|⟨c3,H⟩:=H)
  · obtain⟨n,o⟩:=Yv c3
    (have p:(l0.length==l1.length)=true:=by first|simpa using c3|(simp at c3 ⊢;omega));clear c3;have H':=Am H;clear H;(go_enter Tryd.func11,Tryd.ntmps11);go_wp2;(repeat(go_quiet(fail);try go_wp2));(go_loopg[5] k (fun kq v5 w'=>∃(a:Int),v5=.int .i64 a∧Aside0 (Qbt.l0 kq l0 l1 a=some r)∧Aside0 (kq≤k)∧Drawn0 w w'));(case atStart=>exact⟨(0),Yk,H',⟨Nat.le_refl _⟩,by repeat(first|exact Drawn0.refl _|apply Drawn0.step)⟩)
    case round=>
      (clear H');(try clear n);(try clear o);(try clear p);(obtain⟨a,rfl,HA,t,⟨m1,rfl⟩⟩:=hrel)
      cases gk with
      |zero=>exact absurd HA.out (by simp[Qbt.l0])
      |succ k1=>
        (have H:=HA.out);clear HA;simp only[Qbt.l0]at H;replace H:=Yp H;(obtain⟨c4,H⟩|⟨c4,H⟩:=H);(· (have a2:=decide_eq_true c4);clear c4;replace H:=Dn2 H;obtain⟨a5,a6,H⟩:=H;replace H:=Yp H;(obtain⟨c7,H⟩|⟨c7,H⟩:=H);(· (obtain⟨a3,a4⟩:=Yv c7);clear c7;have H':=Am H;clear H;have b:0≤(a:Int):=Ym;have d:a<(l0.length:Int):=Ym;obtain⟨q,i,l⟩:=Kd.at_int v.out a b d;cases i;replace b:=eq_true b;replace d:=eq_true d;have c:0≤(a:Int):=Ym;have g:a<(l1.length:Int):=Ym;obtain⟨s,j,m⟩:=Kd.at_int x.out a c g;cases j;replace c:=eq_true c;replace g:=eq_true g;go_wp2;(repeat(go_quiet(fail);try go_wp2));(go_roundg k1);(case measure=>have:=t.out;omega);(case rel=>exact⟨(wrap64 (a+1)),Yk,H',⟨by have:=t.out;omega⟩,by repeat(first|exact Drawn0.refl _|apply Drawn0.step)⟩));(· (obtain⟨a3,a4⟩:=Yw c7);obtain rfl:=Option.some.inj H;have b:0≤(a:Int):=Ym;have d:a<(l0.length:Int):=Ym;obtain⟨q,i,l⟩:=Kd.at_int v.out a b d;cases i;replace b:=eq_true b;replace d:=eq_true d;have c:0≤(a:Int):=Ym;have g:a<(l1.length:Int):=Ym;obtain⟨s,j,m⟩:=Kd.at_int x.out a c g;cases j;replace c:=eq_true c;replace g:=eq_true g;go_wp2;(repeat(go_quiet(fail);try go_wp2));go_ret;(exact⟨by first|rfl|(simp;done)|(simp[*];done),by repeat(first|exact Drawn0.refl _|apply Drawn0.step)⟩)));(· (have a2:=decide_eq_false c4);clear c4;obtain rfl:=Option.some.inj H;go_wp2;(repeat(go_quiet(fail);try go_wp2));go_ret;(exact⟨by first|rfl|(simp;done)|(simp[*];done),by repeat(first|exact Drawn0.refl _|apply Drawn0.step)⟩))
  · obtain⟨n,o⟩:=Yw c3
    (have p:(l0.length==l1.length)=false:=by first|simpa using c3|(simp at c3 ⊢;omega));obtain rfl:=Option.some.inj H;(go_enter Tryd.func11,Tryd.ntmps11);go_wp2;(repeat(go_quiet(fail);try go_wp2));go_ret;(exact⟨by first|rfl|(simp;done)|(simp[*];done),by repeat(first|exact Drawn0.refl _|apply Drawn0.step)⟩)
def Qcf.f (k:Nat) (a:Int) (c:List Int) (b:Int) (d:List Int):Option (Bool):=if a=b then((Qbt.f k c d).bind fun e=>(some e))else(some false)
set_option maxHeartbeats 8000000 in
set_option maxRecDepth 100000 in
theorem Qcf.calls (k:Nat) (i:Int) (l:Option Addr) (o:Nat) (b:List Int) (j:Int) (m:Option Addr) (p:Nat) (c:List Int) (r:Bool) (w:World) (v:Kd.C (Kd.int .i64) w l b.length b) (s:b.length≤o) (x:Kd.C (Kd.int .i64) w m c.length c) (t:c.length≤p) (h:Qcf.f k i b j c=some r) :
    Calls Tryd.prog 27 #[.agg #[.int .i64 i,.slice l b.length o],.agg #[.int .i64 j,.slice m c.length p]] w fun e w'=>e=.returned (.bool r)∧Below w.heap.size w w':=by
  (have d8:=Tryd.underlying43);have a4:=Am v;have a2:=Am s;clear v s;have a5:=Am x;have a3:=Am t;clear x t;have HB:=Am (Below.refl w.heap.size w);(have H:(if i=j then((Qbt.f k b c).bind fun q=>(some q))else(some false))=some r:=h);clear h;replace H:=Yp H;(obtain⟨c3,H⟩|⟨c3,H⟩:=H);(· (obtain⟨a8,a9⟩:=Yv c3);clear c3;replace H:=Yq H;obtain⟨q,A4,H⟩:=H;obtain rfl:=Option.some.inj H;(go_enter Tryd.func27,Tryd.ntmps27);(go_wp2_with(first|(refine Y4 2 #[.int .i64 i,.slice l b.length o] 43 ?_;intro a6 hg w5 hbox hb;have a:=Am (hbox);have a0:=Yge HB hg;have y:=Yge HB hg;replace HB:=Zs hb;clear hb hbox hg)|(refine Y4 3 #[.int .i64 j,.slice m c.length p] 43 ?_;intro a7 hg w6 hbox hb;have n:=Am (hbox);have a1:=Yge HB hg;have z:=Yge HB hg;replace HB:=Zs hb;have d:=Zl a hg;have g:=Zm a hg;replace a:=Zb a hb;clear hb hbox hg;have d6:=d.out;have d7:=g.out;obtain⟨b8,b9,d0,d1⟩:=Y2 a;obtain⟨c0,c1,d2,d3⟩:=Y2 n)|(go_at_call 11;(with_reducible refine(Qbt.calls k _ _ b _ _ c q _ ?side1 ?side2 ?side3 ?side4 A4.out).mono ?_);(case side1=>exact Yg (Kd.C_below a4.out HB.out));(case side2=>exact a2.out);(case side3=>exact Yg (Kd.C_below a5.out HB.out));(case side4=>exact a3.out);rintro e w' ⟨rfl,⟨nd,rfl⟩⟩)));go_ret;(exact⟨Yl,Ya⟩))
  · obtain⟨a8,a9⟩:=Yw c3
    (obtain rfl:=Option.some.inj H);(go_enter Tryd.func27,Tryd.ntmps27);(go_wp2_with(first|(refine Y4 2 #[.int .i64 i,.slice l b.length o] 43 ?_;intro a6 hg d9 hbox hb;have a:=Am (hbox);have a0:=Yge HB hg;have y:=Yge HB hg;replace HB:=Zs hb;clear hb hbox hg)|(refine Y4 3 #[.int .i64 j,.slice m c.length p] 43 ?_;intro a7 hg e0 hbox hb;have n:=Am (hbox);have a1:=Yge HB hg;have z:=Yge HB hg;replace HB:=Zs hb;have d:=Zl a hg;have g:=Zm a hg;replace a:=Zb a hb;clear hb hbox hg;have d4:=d.out;have d5:=g.out;obtain⟨b0,b1,b4,b5⟩:=Y2 a;obtain⟨b2,b3,b6,b7⟩:=Y2 n)));go_ret;(exact⟨Yl,Ya⟩)
theorem Qaf.lit (n:Int) (n1:1≤n) (n2:n≤62) (p:Int) (hp:wrap64 (2 ^ n.toNat)=p) (B:Nat) (row:Int) (W:World) (hc:W.cell? ⟨B,0,none⟩=some (.int .i64 n)) :
    Calls Tryd.prog 107 #[.int .i64 row,.pointer (some ⟨B,0,none⟩)] W fun e w'=>e=.returned (.bool (decide (row<0)||decide (p≤row)))∧w'=W:=by
  have n0:0≤n:=by omega
  have n3:n≤64:=by omega
  by_cases h:row<0
  · have h0:decide (row<0)=true:=decide_eq_true h
    clear h
    go_enter Tryd.func107,Tryd.ntmps107
    go_wp2
    go_ret
    exact⟨by simp[h0],rfl⟩
  · have h0:decide (row<0)=false:=decide_eq_false h
    clear h
    go_enter Tryd.func107,Tryd.ntmps107
    go_wp2
    go_ret
    exact⟨by simp[h0],rfl⟩
set_option maxHeartbeats 2000000 in
theorem Qaf.idx (q:Int→Bool) (g:Nat) (lb:Array Value) (eg:∀args w,(callFunc g args).run Tryd.prog w=.ok (.enter g args) w) (A0:Option Addr) (c0:Nat) (l0:List Int) (w:World)
    (hq:∀(W:World) (x:Int),Below w.heap.size w W→Calls Tryd.prog g (#[.int .i64 x]++lb) W fun e w'=>e=.returned (.bool (q x))∧Below w.heap.size w w')
    (a:Kd.C (Kd.int .i64) w A0 l0.length l0) (b:l0.length≤c0) :
    Calls Tryd.prog 170 #[.slice A0 l0.length c0,.func (.func g) #[] lb] w fun e w'=>Aside0 (∃i:Int,e=.returned (.int .i64 i)∧(0≤i↔∃x ∈ l0,q x=true))∧Below w.heap.size w w':=by
  have hbig:=Kd.C_max a
  have HR:=Am a
  have HQ:=Am hq
  clear a hq
  go_enter Tryd.func170,Tryd.ntmps170
  go_wp2
  go_loopg[5,8] l0.length (fun gg _ s8 wr=>∃kk:Nat,kk≤l0.length∧l0.length-kk≤gg∧s8=.int .i64 kk∧Aside0 (Below w.heap.size w wr)∧Aside0 (∀x ∈ l0.take kk,q x=false))
  case atStart=>exact⟨0,Nat.zero_le _,by omega,rfl,⟨Below.refl _ w⟩,⟨by simp⟩⟩
  case round=>
    obtain⟨kk,hkk,hg,rfl,BW,A⟩:=hrel
    by_cases hlt:kk<l0.length
    · have hltz:(kk:Int)<(l0.length:Int):=by omega
      obtain⟨ad,ea,hcell⟩:=Kd.at_int HR.out kk (by omega) (by omega)
      cases ea
      rw[Int.toNat_natCast]at hcell
      replace hcell:=(BW.out.cell (World.block_lt_of_cell? w _ hcell)).trans hcell
      have hcall:=HQ.out wr (rd l0 kk) BW.out
      have hrd:rd l0 kk=l0[kk]:=by simp[rd,List.getD_eq_getElem?_getD,List.getElem?_eq_getElem hlt]
      have HRD:=Am hrd
      clear hrd
      generalize rd l0 kk=y at *
      have hts:l0.take (kk+1)=l0.take kk++[y]:=by rw[HRD.out,List.take_succ_eq_append_getElem hlt]
      have HTS:=Am hts
      clear hts
      cases hqy:q y with
      |true=>
        rw[hqy]at hcall
        have HQY:=Am hqy
        clear hqy
        go_wp2_with(go_at_fn g;refine hcall.mono ?_;rintro e w' ⟨rfl,hb'⟩)
        go_ret
        exact⟨⟨kk,rfl,⟨fun _=>⟨y,by rw[HRD.out];exact List.getElem_mem _,HQY.out⟩,fun _=>by omega⟩⟩,hb'⟩
      |false=>
        rw[hqy]at hcall
        have HQY:=Am hqy
        clear hqy
        go_wp2_with(go_at_fn g;refine hcall.mono ?_;rintro e w' ⟨rfl,hb'⟩)
        go_roundg(l0.length-(kk+1))
        case measure=>omega
        case rel=>
          refine⟨kk+1,by omega,by omega,by go_num,⟨hb'⟩,⟨?_⟩⟩
          rw[HTS.out]
          intro x hx
          rcases List.mem_append.1 hx with h|h
          · exact A.out x h
          · rw[List.mem_singleton.1 h];exact HQY.out
    · have hltz:¬(kk:Int)<(l0.length:Int):=by omega
      have hkl:kk=l0.length:=by omega
      have HKL:=Am hkl
      clear hkl
      go_wp2
      go_ret
      refine⟨⟨-1,rfl,⟨fun h=>by omega,fun⟨x,hx,e⟩=>?_⟩⟩,BW.out⟩
      have:=A.out x (by rw[HKL.out,List.take_of_length_le (Nat.le_refl _)];exact hx)
      rw[e]at this
      cases this
set_option maxHeartbeats 2000000 in
theorem Qaf.has (q:Int→Bool) (g:Nat) (lb:Array Value) (eg:∀args w,(callFunc g args).run Tryd.prog w=.ok (.enter g args) w) (A0:Option Addr) (c0:Nat) (l0:List Int) (w:World)
    (hq:∀(W:World) (x:Int),Below w.heap.size w W→Calls Tryd.prog g (#[.int .i64 x]++lb) W fun e w'=>e=.returned (.bool (q x))∧Below w.heap.size w w')
    (b:Kd.C (Kd.int .i64) w A0 l0.length l0) (a:l0.length≤c0) :
    Calls Tryd.prog 106 #[.slice A0 l0.length c0,.func (.func g) #[] lb] w fun e w'=>e=.returned (.bool (l0.any q))∧Below w.heap.size w w':=by
  go_enter Tryd.func106,Tryd.ntmps106
  go_wp2_with(go_at_call 170;refine(Qaf.idx q g lb eg A0 c0 l0 _ hq b a).mono ?_;rintro e w' ⟨⟨i,rfl,hi⟩,hb'⟩;have HI:=Am hi;clear hi)
  go_ret
  refine⟨?_,hb'⟩
  have:decide (0≤i)=l0.any q:=by
    rw[Bool.eq_iff_iff,decide_eq_true_iff,HI.out]
    simp
  rw[← this]
  rfl
def Qaf.f (a:Int) (b:List Int):Option (Bool):=if a<1 then(some false)else(if a>62 then(some false)else(if(b.length:Int)=a then(some (!(b.any fun row=>decide (row<0)||decide (wrap64 (2 ^ a.toNat)≤row))))else(some false)))
set_option maxHeartbeats 8000000 in
set_option maxRecDepth 100000 in
theorem Qaf.calls (a:Int) (c:Option Addr) (d:Nat) (b:List Int) (r:Bool) (w:World) (g:Kd.C (Kd.int .i64) w c b.length b) (i:b.length≤d) (h:Qaf.f a b=some r) :
    Calls Tryd.prog 28 #[.agg #[.int .i64 a,.slice c b.length d]] w fun e w'=>e=.returned (.bool r)∧Below w.heap.size w w':=by
  have hlen:=Kd.C_max g
  have HR:=Am g
  have HC:=Am i
  clear g i
  have bx:Below w.heap.size w ((w.alloc (.cells #[.int .i64 a,.slice c b.length d] 43)).alloc (.cells #[.int .i64 a] 2)):=((Below.refl _ _).alloc (Nat.le_refl _) _).alloc (by simp) _
  have BX:=Am bx
  clear bx
  unfold Qaf.f at h
  by_cases c1:a<1
  · rw[if_pos c1]at h
    obtain rfl:=Option.some.inj h
    clear h
    have k1:decide (a<1)=true:=decide_eq_true c1
    clear c1
    go_enter Tryd.func28,Tryd.ntmps28
    go_wp2
    go_ret
    exact⟨rfl,BX.out⟩
  · rw[if_neg c1]at h
    have k1:decide (a<1)=false:=decide_eq_false c1
    by_cases c2:a>62
    · rw[if_pos c2]at h
      obtain rfl:=Option.some.inj h
      clear h
      have k2:decide (62<a)=true:=decide_eq_true c2
      clear c1 c2
      go_enter Tryd.func28,Tryd.ntmps28
      go_wp2
      go_ret
      exact⟨rfl,BX.out⟩
    · rw[if_neg c2]at h
      have k2:decide (62<a)=false:=decide_eq_false c2
      by_cases c3:(b.length:Int)=a
      · rw[if_pos c3]at h
        obtain rfl:=Option.some.inj h
        clear h
        have k3:((b.length:Int)!=a)=false:=by simp[c3]
        have n1:1≤a:=by omega
        have n2:a≤62:=by omega
        clear c1 c2 c3
        have HK:=fun W hq=>Qaf.has (fun row=>decide (row<0)||decide (wrap64 (2 ^ a.toNat)≤row)) 107 #[.pointer (some ⟨w.heap.size+1,0,none⟩)] (enters_of Tryd.func107 (by kernel_rfl) rfl) c d b W hq
        go_enter Tryd.func28,Tryd.ntmps28
        go_wp2_with fail
        refine(HK _ ?hq ?hr HC.out).mono ?_
        case hq=>
          intro W x hb
          have hc:W.cell? ⟨w.heap.size+1,0,none⟩=some (.int .i64 a):=by
            rw[hb.cell (p:=⟨w.heap.size+1,0,none⟩) (by simp)]
            simp
          exact(Qaf.lit a n1 n2 _ rfl _ x W hc).mono fun e w' ⟨he,hw⟩=>⟨he,by rw[hw];exact hb⟩
        case hr=>exact Kd.C_below HR.out BX.out
        rintro e w' ⟨rfl,hb⟩
        go_wp2
        go_ret
        refine⟨rfl,?_⟩
        exact below_then BX.out (by simp;omega) hb
      · rw[if_neg c3]at h
        obtain rfl:=Option.some.inj h
        clear h
        have k3:((b.length:Int)!=a)=true:=by simp[c3]
        clear c1 c2 c3
        go_enter Tryd.func28,Tryd.ntmps28
        go_wp2
        go_ret
        exact⟨rfl,BX.out⟩
theorem Qbz.key (x a:Nat) (hx:x<18446744073709551616) (hlow:x &&& (18446744073709551616-x)=a) (b:x≠0) :
    IntKind.u64.wrap (bits BinOp.and IntKind.u64 (x:Int) (IntKind.u64.wrap (-(x:Int)))*285870213051353865)/288230376151711744=((a*285870213051353865 % 18446744073709551616/288230376151711744:Nat):Int):=by
  have e1:IntKind.u64.wrap (-(x:Int))=((18446744073709551616-x:Nat):Int):=by rw[IntKind.wrap_u64];omega
  rw[e1,bits_and_u64_nat x _ hx (by omega),hlow,IntKind.wrap_u64]
  omega
theorem Qbz.all (x:Nat) (hx:x<18446744073709551616) (a:x≠0) (w:World) (hT:TabW w):∃idx kk:Int,0≤idx∧idx<64∧IntKind.u64.wrap (bits BinOp.and IntKind.u64 (x:Int) (IntKind.u64.wrap (-(x:Int)))*285870213051353865)/288230376151711744=idx∧w.cell? ⟨0,idx.toNat,none⟩=some (.int .u8 kk)∧((Lib.ctz 64 x:Nat):Int)=kk∧0≤kk∧kk<64:=by
  obtain⟨hlow,hk⟩:=Lib.lowest_bit 64 x a hx
  obtain⟨hi,htab⟩:=Lib.deBruijn64_at _ hk
  have hcell:=hT _ hi
  rw[htab]at hcell
  have key:=Qbz.key x _ hx hlow a
  generalize Lib.ctz 64 x=k at *
  generalize 2 ^ k*285870213051353865 % 18446744073709551616/288230376151711744=idx at *
  exact⟨idx,k,by omega,by omega,key,by rw[Int.toNat_natCast];exact hcell,rfl,by omega,by omega⟩
def Qbz.f (a0:Int):Option (Int):=if 0≤a0 then if a0<18446744073709551616 then some ((Lib.ctz 64 a0.toNat:Nat):Int)else none else none
set_option maxHeartbeats 8000000 in
set_option maxRecDepth 100000 in
theorem Qbz.calls (a0:Int) (r:Int) (w:World) (hT:TabW w) (h:Qbz.f a0=some r) :
    Calls Tryd.prog 166 #[.int .u64 a0] w fun e w'=>e=.returned (.int .i64 r)∧Drawn0 w w':=by
  unfold Qbz.f at h
  split at h
  case isFalse=>cases h
  case isTrue h0=>
  split at h
  case isFalse=>cases h
  case isTrue h1=>
  obtain rfl:=Option.some.inj h
  clear h
  by_cases a:a0=0
  · subst a
    go_enter Tryd.func166,Tryd.ntmps166
    go_wp2
    go_ret
    exact⟨rfl,Drawn0.refl _⟩
  · have ha:=Qbz.all a0.toNat (by omega) (by omega) w hT
    rw[Int.toNat_of_nonneg h0]at ha
    obtain⟨idx,kk,i0,i1,key,hcell,e,k0,k1⟩:=ha
    rw[e]
    have b:(a0==0)=false:=by simpa using a
    have kw:IntKind.i64.wrap kk=kk:=by rw[IntKind.wrap_i64];omega
    have KEY:=Am key
    have p0:=eq_true i0
    have p1:=eq_true i1
    clear key hT a e h0 h1 i0 i1 k0 k1
    go_enter Tryd.func166,Tryd.ntmps166
    go_wp2_with(simp only[KEY.out])
    go_ret
    exact⟨rfl,Drawn0.refl _⟩
def Qce.l0:Nat→Int→List Int→Option (List Int)
  |0,_,_=>none
  |k+1,x0,x3=>if x0=0 then(some x3)else((Qbz.f (IntKind.u64.wrap (x0))).bind fun a=>(if x3.length<17592186044416 then(Qce.l0 k (Go.bits .and .i64 x0 (wrap64 (x0-1))) (x3++[a]))else(none)))
def Qce.f (k:Nat) (a0:Int):Option (List Int):=Qce.l0 k a0 (([]:List Int))
set_option maxHeartbeats 8000000 in
set_option maxRecDepth 100000 in
theorem Qce.calls (k:Nat) (a0:Int) (r:List Int) (w:World) (hT:TabW w) (h:Qce.f k a0=some r) :
    Calls Tryd.prog 99 #[.int .i64 a0] w fun e w'=>∃x:Value,e=.returned (x)∧Kd.R (Kd.int .i64) 2 w' w.heap.size (fun _=>True) x r∧Below w.heap.size w w':=by
  (have HT:=Am hT);clear hT;have HB:=Am (Below.refl w.heap.size w);(have H:(Qce.l0 k a0 (([]:List Int)))=some r:=h);clear h;(obtain⟨o,c⟩:∃y_:List Int,y_=(([]:List Int)):=⟨_,rfl⟩);(replace H:(Qce.l0 k a0 o)=some r:=by first|(rw[c];with_reducible exact H)|(have n:=(Option.bind_some _ _).symm.trans H;rw[c];with_reducible exact n)|(have n:=(Option.bind_some _ _).symm.trans H;with_reducible exact n)|with_reducible exact H|(rw[c];exact H)|exact H);have l:=Am c;clear c;have H':=Am H;clear H;(go_enter Tryd.func99,Tryd.ntmps99);(go_wp2_with(first|((with_reducible refine gate_dst (N:=4) rfl ?_);refine Kd.R_lit (Kd.int .i64) _ 2 ?hg (N:=4) ?hd (xs:=([]:List Int)) (inner:=[]) (ok:=fun _=>True) (okp:=fun _=>True) ?hr ?hp (fun _ hk=>hk) trivial (Below.refl _ _) (Nat.le_refl _) (by simp) ?_;(case hd=>rfl);(case hg=>rfl);(case hr=>first|(go_simp;done)|(go_simp;rfl));(case hp=>exact(Reps.none _ _));intro a3 w2 i hb hg_ hnew_;clear hg_ hnew_;(first|rw[← l.out]at i|(simp only[Int.reduceToNat]at i;rw[← l.out]at i));have p:=Am (Kd.R_lower i (below_size (Ya)));replace HB:=Zs hb;clear hb i)));(go_loopg[0,3] k (fun kq v0 v3 w'=>∃(a:Int) (d:List Int),v0=.int .i64 a∧Aside0 (Qce.l0 kq a d=some r)∧Aside0 (kq≤k)∧Aside0 (Kd.R (Kd.int .i64) 2 w' w.heap.size (fun _=>True) v3 d)∧Aside0 (Below w.heap.size w w')));(case atStart=>exact⟨(a0),(o),Yk,H',⟨Nat.le_refl _⟩,⟨YcR p⟩,⟨Ya⟩⟩)
  case round=>
    (clear H');(obtain⟨a,d,rfl,HA,s,j,HB⟩:=hrel)
    cases gk with
    |zero=>exact absurd HA.out (by simp[Qce.l0])
    |succ k1=>
      (have H:=HA.out);clear HA;simp only[Qce.l0]at H;replace H:=Yp H;(obtain⟨c4,H⟩|⟨c4,H⟩:=H);(· (obtain⟨z,a1⟩:=Yv c4);clear c4;obtain rfl:=Option.some.inj H;go_wp2;go_ret;(exact⟨_,Yl,YcR j,Ya⟩))
      · obtain⟨z,a1⟩:=Yw c4
        (replace H:=Yq H);obtain⟨g,A5,H⟩:=H;replace H:=Ln H;obtain⟨y,H⟩:=H;obtain⟨a2,m⟩:=Ys (d++[g]:List Int);rw[← m.out]at H;have H':=Am H;clear H;(go_wp2_with(first|(refine Y5 166 (some 14) Tryd.func166 #[.int .u64 (IntKind.u64.wrap (a))] ?_;(with_reducible refine(Qbz.calls (IntKind.u64.wrap (a)) g _ ?side1 A5.out).mono ?_);(case side1=>exact TabW.below HT.out (Ya));rintro e w' ⟨rfl,⟨nd,rfl⟩⟩;refine⟨_,rfl,?_⟩)|((with_reducible refine gate_builtin (b:=.append) (xs:=#[.tmp 11,.tmp 15]) rfl ?_);at_builtin;refine Kd.R_append (Kd.int .i64) (w0:=w) w.heap.size rfl (.tmp 11) (.tmp 15) 24 2 (.int .i64 0) 8 rfl Tryd.underlying24 info2 rfl (by decide) (by omega) u3 d g [.int .i64 g] (fun _=>True) (fun _=>False) rfl rfl ?aP (fun _ hk=>hk.elim) ?aF ?aO ?aB ?aS ?aL ?_;(case aP=>exact rfl);(case aB=>exact(Ya));(case aF=>exact(fun _ _=>trivial));(case aO=>exact(YcR j));(case aS=>exact(below_size (Ya)));(case aL=>have:=y.out;omega);intro a4 w7 ho hb hg hat;rw[← m.out]at ho;have t:=Am (hb);have v:=Am (ho);clear HB;clear j;have HB:=t;have q:=v;clear t v;clear ho hb hg hat)));(go_roundg k1);(case measure=>have:=s.out;omega);(case rel=>exact⟨(Go.bits .and .i64 a (wrap64 (a-1))),(a2),Yk,H',⟨by have:=s.out;omega⟩,⟨YcR q⟩,⟨Ya⟩⟩)
mutual
def Qbd.l0:Nat→List (List Int)→List Int→Int→Int→Option ((List (List Int)))
  |0,_,_,_,_=>none
  |k+1,x3,c,d,a=>if a<d then(if 0≤a then(if a<(c.length:Int)then((Qce.f k (rd c a)).bind fun b=>(Qbd.l1 k x3 a c d a b (b.length:Int) 0))else(none))else(none))else(some x3)
def Qbd.l1:Nat→List (List Int)→Int→List Int→Int→Int→List Int→Int→Int→Option ((List (List Int)))
  |0,_,_,_,_,_,_,_,_=>none
  |k+1,x3,x4,c,d,e,b,f,a=>if a<f then(if 0≤a then(if a<(b.length:Int)then(if x3.length<5864062014805 then(Qbd.l1 k (x3++[(([x4,rd b a]:List Int))]) x4 c d e b f (wrap64 (a+1)))else(none))else(none))else(none))else(Qbd.l0 k x3 c d (wrap64 (e+1)))
end
def Qbd.f (k:Nat) (b:Int) (a:List Int):Option ((List (List Int))):=Qbd.l0 k (([]:List (List Int))) a (a.length:Int) 0
set_option maxHeartbeats 8000000 in
set_option maxRecDepth 100000 in
theorem Qbd.calls (k:Nat) (v:Int) (a0:Option Addr) (x:Nat) (d:List Int) (r:List (List Int)) (w:World) (c1:Kd.C (Kd.int .i64) w a0 d.length d) (c0:d.length≤x) (hT:TabW w) (h:Qbd.f k v d=some r) :
    Calls Tryd.prog 108 #[.agg #[.int .i64 v,.slice a0 d.length x]] w fun e w'=>∃e6:Value,e=.returned (e6)∧Kd.S (Kd.slice 2 (Kd.int .i64)) 24 w' w.heap.size (fun _=>True) e6 r∧Below w.heap.size w w':=by
  (have g2:=Tryd.underlying43);have HT:=Am hT;clear hT;have d8:=Am c1;have f9:=Am c0;clear c1 c0;have HB:=Am (Below.refl w.heap.size w);(have H:(Qbd.l0 k (([]:List (List Int))) d (d.length:Int) 0)=some r:=h);clear h;(obtain⟨d5,p⟩:∃y_:List (List Int),y_=(([]:List (List Int))):=⟨_,rfl⟩);(replace H:(Qbd.l0 k d5 d (d.length:Int) 0)=some r:=by first|(rw[p];with_reducible exact H)|(have t:=(Option.bind_some _ _).symm.trans H;rw[p];with_reducible exact t)|(have t:=(Option.bind_some _ _).symm.trans H;with_reducible exact t)|with_reducible exact H|(rw[p];exact H)|exact H);have b6:=Am p;clear p;have H':=Am H;clear H;(go_enter Tryd.func108,Tryd.ntmps108);(go_wp2_with(first|(refine Y4 1 #[.int .i64 v,.slice a0 d.length x] 43 ?_;intro b9 hg w2 hbox hb;have c:=Am (hbox);have f8:=Yge HB hg;have f7:=Yge HB hg;replace HB:=Zs hb;clear hb hbox hg)|((with_reducible refine gate_dst (N:=8) rfl ?_);refine Kd.S_lit (Kd.slice 2 (Kd.int .i64)) _ 24 ?hg (N:=8) ?hd (xs:=([]:List (List Int))) (inner:=[]) (ok:=fun _=>True) (okp:=fun _=>True) ?hr ?hp (fun _ hk=>hk) trivial (Below.refl _ _) (Nat.le_refl _) (by simp) ?_;(case hd=>rfl);(case hg=>rfl);(case hr=>first|(go_simp;done)|(go_simp;rfl));(case hp=>exact(Reps.none _ _));intro g3 w3 b0 hb hg_ hnew_;clear hg_ hnew_;(first|rw[← b6.out]at b0|(simp only[Int.reduceToNat]at b0;rw[← b6.out]at b0));have d6:=Am (Kd.S_lower b0 (below_size (Ya)));replace c:=Zb c hb;replace HB:=Zs hb;clear hb b0;obtain⟨a6,a7,a8,a9⟩:=Y2 c)));(go_loopg[3,12] k (fun kq v3 f5 w'=>∃(a4:List (List Int)) (a:Int),f5=.int .i64 a∧Aside0 (Qbd.l0 kq a4 d (d.length:Int) a=some r)∧Aside0 (kq≤k)∧Aside0 (Kd.S (Kd.slice 2 (Kd.int .i64)) 24 w' w.heap.size (fun _=>True) v3 a4)∧Aside0 (w'.heap[b9]? =some (.cells #[.int .i64 v,(.slice a0 d.length x)] 43 (0,0)))∧Aside0 (Below w.heap.size w w')));(case atStart=>exact⟨(d5),(0),Yk,H',⟨Nat.le_refl _⟩,⟨YcS d6⟩,⟨Ye c⟩,⟨Ya⟩⟩)
  case round=>
    (clear H');(try clear a6);(try clear a7);(try clear a8);(try clear a9);(obtain⟨a4,a,rfl,HA,b3,j,c,HB⟩:=hrel)
    cases gk with
    |zero=>exact absurd HA.out (by simp[Qbd.l0])
    |succ k1=>
      (have H:=HA.out);clear HA;simp only[Qbd.l0]at H;replace H:=Yp H;(obtain⟨c6,H⟩|⟨c6,H⟩:=H)
      · have d2:=decide_eq_true c6
        clear c6;replace H:=Dn2 H;obtain⟨e7,e8,H⟩:=H;replace H:=Yq H;obtain⟨g,A9,H⟩:=H;have H':=Am H;clear H;have a2:0≤(a:Int):=Ym;have a3:a<(d.length:Int):=Ym;obtain⟨e0,e9,n⟩:=Kd.at_int d8.out a a2 a3;cases e9;replace n:=(HB.out.cell (World.block_lt_of_cell? _ _ n)).trans n;replace a2:=eq_true a2;replace a3:=eq_true a3;(go_wp2_with(first|(refine Y5 99 (some 18) Tryd.func99 #[.int .i64 (rd d a)] ?_;(with_reducible refine(Qce.calls k1 (rd d a) g _ ?side1 A9.out).mono ?_);(case side1=>exact TabW.below HT.out (Ya));rintro e g7 ⟨g4,rfl,d4,hb⟩;refine⟨_,rfl,?_⟩;replace j:=Am (Kd.S_elder' (YcS j) (Kd.R_base d4) hb);have b5:=Am (Kd.R_lower d4 (below_size (Ya)));replace c:=Zb c hb;replace HB:=Zs hb;clear hb d4;obtain⟨d0,y,f1⟩:=Kd.R_slice b5.out;subst f1)));(go_loopg[3,20] k1 (fun kq v3 f6 w'=>∃(m:List (List Int)) (i:Int),f6=.int .i64 i∧Aside0 (Qbd.l1 kq m a d (d.length:Int) a g (g.length:Int) i=some r)∧Aside0 (kq≤k1)∧Aside0 (Kd.S (Kd.slice 2 (Kd.int .i64)) 24 w' w.heap.size (fun k_=>some k_≠((.slice d0 g.length y):Value).ownBlock) v3 m)∧Aside0 (Kd.R (Kd.int .i64) 2 w' w.heap.size (fun _=>True) (.slice d0 g.length y) g)∧Aside0 (w'.heap[b9]? =some (.cells #[.int .i64 v,(.slice (some e0) d.length x)] 43 (0,0)))∧Aside0 (Below w.heap.size w w')));(case atStart=>exact⟨(a4),(0),Yk,H',⟨Nat.le_refl _⟩,⟨YbS (Kd.S_mono j.out (fun _ hk=>hk.2))⟩,⟨YcR b5⟩,⟨Ye c⟩,⟨Ya⟩⟩)
        case round=>
          (clear H');(try clear d2);(try clear e7);(try clear e8);(try clear a6);(try clear a7);(try clear a8);(try clear a9);(try clear n);(try clear a2);(try clear a3);(obtain⟨m,i,rfl,HA,b4,j,l,c,HB⟩:=hrel)
          cases gk with
          |zero=>exact absurd HA.out (by simp[Qbd.l1])
          |succ k2=>
            (have H:=HA.out);clear HA;simp only[Qbd.l1]at H;replace H:=Yp H;(obtain⟨a5,H⟩|⟨a5,H⟩:=H);(· (have e1:=decide_eq_true a5);clear a5;replace H:=Dn2 H;obtain⟨g0,g1,H⟩:=H;(obtain⟨z,q⟩:∃y_:List Int,y_=(([a,rd g i]:List Int)):=⟨_,rfl⟩);(replace H:(if m.length<5864062014805 then(Qbd.l1 k2 (m++[z]) a d (d.length:Int) a g (g.length:Int) (wrap64 (i+1)))else(none))=some r:=by first|(rw[q];with_reducible exact H)|(have t:=(Option.bind_some _ _).symm.trans H;rw[q];with_reducible exact t)|(have t:=(Option.bind_some _ _).symm.trans H;with_reducible exact t)|with_reducible exact H|(rw[q];exact H)|exact H);have b7:=Am q;clear q;replace H:=Ln H;obtain⟨d9,H⟩:=H;obtain⟨f3,b8⟩:=Ys (m++[z]:List (List Int));rw[← b8.out]at H;have H':=Am H;clear H;have b1:0≤(i:Int):=Ym;have b2:i<(g.length:Int):=Ym;obtain⟨a1,f0,f4⟩:=Kd.at_int (Kd.R_reads' l.out).2.2 i b1 b2;cases f0;replace b1:=eq_true b1;replace b2:=eq_true b2;(go_wp2_with(first|((with_reducible refine gate_dst (N:=27) rfl ?_);refine Kd.R_lit (Kd.int .i64) _ 2 ?hg (N:=27) ?hd (xs:=([a,rd g i]:List Int)) (inner:=[.int .i64 a,.int .i64 (rd g i)]) (ok:=fun _=>True) (okp:=fun _=>True) ?hr ?hp (fun _ hk=>hk) trivial (Below.refl _ _) (Nat.le_refl _) (by simp) ?_;(case hd=>rfl);(case hg=>rfl);(case hr=>first|(go_simp;done)|(go_simp;rfl));(case hp=>exact(Reps.one (show Kd.M (Kd.int .i64) _ _ _ a [.int .i64 a] from rfl) (Reps.one (show Kd.M (Kd.int .i64) _ _ _ (rd g i) [.int .i64 (rd g i)] from rfl) (Reps.none _ _))));intro g5 g8 o hb hg_ hnew_;clear hg_ hnew_;(first|rw[← b7.out]at o|(simp only[Int.reduceToNat]at o;rw[← b7.out]at o));replace j:=Am (Kd.S_elder' (YcS j) (Kd.R_base o) hb);have s:=Am (Kd.R_lower (Kd.R_new' o (Kd.R_lt (YcR l))) (below_size (Ya)));replace l:=Zx l o hb;replace c:=Zb c hb;replace HB:=Zs hb;clear hb o;obtain⟨d1,d3,f2⟩:=Kd.R_slice s.out;subst f2)|((with_reducible refine gate_builtin (b:=.append) (xs:=#[.tmp 24,.tmp 28]) rfl ?_);at_builtin;refine Kd.S_append (Kd.slice 2 (Kd.int .i64)) (w0:=w) w.heap.size rfl (.tmp 24) (.tmp 28) 49 24 (.slice none 0 0) 24 rfl Tryd.underlying49 info24 rfl (by decide) (by omega) u3 m z [.slice d1 z.length d3] (fun k_=>some k_≠(.slice (some a1) g.length y:Value).ownBlock) (fun k_=>some k_=(.slice d1 z.length d3:Value).ownBlock) rfl rfl ?aP (fun k_ hk_=>((Kd.R_mono (ok':=fun k_=>((fun k_=>some k_≠(.slice (some a1) g.length y:Value).ownBlock)) k_∧some k_≠(u3:Value).ownBlock) (Kd.R_apart' (s.out) (Kd.S_typed j.out) (by decide)) (fun k_ hk=>⟨hk.1.2,hk.2⟩))).1 k_ hk_.symm) ?aF ?aO ?aB ?aS ?aL ?_;(case aP=>exact Kd.M_row (Kd.R_mono (Kd.R_tight rfl (Kd.R_mono (ok':=fun k_=>((fun k_=>some k_≠(.slice (some a1) g.length y:Value).ownBlock)) k_∧some k_≠(u3:Value).ownBlock) (Kd.R_apart' (s.out) (Kd.S_typed j.out) (by decide)) (fun k_ hk=>⟨hk.1.2,hk.2⟩))) (fun _ h_=>h_)));(case aB=>exact(Ya));(case aF=>exact(fun k_ hk=>Kd.fresh' (Kd.R_lt (YcR l)) k_ hk));(case aO=>exact(YbS (Kd.S_mono j.out (fun k_ hk=>⟨hk.1,fun e_=>hk.2 e_⟩))));(case aS=>exact(below_size (Ya)));(case aL=>have:=d9.out;omega);intro g6 g9 ho hb hg hat;rw[← b8.out]at ho;have e2:=Am (Kd.R_over' (YcR l) (Kd.S_typed (YcS j)) (by decide) hg);have e3:=Am (blk_grown (Ye c) hg (Kd.S_ne j.out c.out (by decide)));have e4:=Am (hb);have e5:=Am (ho);clear l;clear c;clear HB;clear j;clear s;have l:=e2;have c:=e3;have HB:=e4;have d7:=e5;clear e2 e3 e4 e5;clear ho hb hg hat)));(go_roundg k2);(case measure=>have:=b3.out;have:=b4.out;omega);(case rel=>exact⟨(f3),(wrap64 (i+1)),Yk,H',⟨by have:=b3.out;have:=b4.out;omega⟩,⟨YcS d7⟩,⟨YbR (Kd.R_mono l.out (fun _ hk=>trivial))⟩,⟨Ye c⟩,⟨Ya⟩⟩));(· (have e1:=decide_eq_false a5);clear a5;have H':=Am H;clear H;go_wp2;(go_roundg k2);(case measure=>have:=b3.out;have:=b4.out;omega);(case rel=>exact⟨(m),(wrap64 (a+1)),Yk,H',⟨by have:=b3.out;have:=b4.out;omega⟩,⟨YbS (Kd.S_mono j.out (fun _ hk=>trivial))⟩,⟨Ye c⟩,⟨Ya⟩⟩))
      · have d2:=decide_eq_false c6
        clear c6;obtain rfl:=Option.some.inj H;go_wp2;go_ret;(exact⟨_,Yl,YcS j,Ya⟩)
def Qdk.f (k:Nat) (a:Int) (b:List Int):Option ((List (List Int)) × Int):=(Qaf.f a b).bind fun c=>(if c=true then((Qbd.f k a b).bind fun d=>(some (d,0)))else(some (([]:List (List Int)),1)))
set_option maxHeartbeats 8000000 in
set_option maxRecDepth 100000 in
theorem Qdk.calls (k:Nat) (c:Int) (d:Option Addr) (g:Nat) (a:List Int) (r1:List (List Int)) (r2:Int) (w:World) (o:Kd.C (Kd.int .i64) w d a.length a) (n:a.length≤g) (hT:TabW w) (h:Qdk.f k c a=some (r1,r2)) :
    Calls Tryd.prog 30 #[.agg #[.int .i64 c,.slice d a.length g]] w fun e w'=>∃v:Value,e=.returned (.tuple #[v,.int .i64 r2])∧Kd.S (Kd.slice 2 (Kd.int .i64)) 24 w' w.heap.size (fun _=>True) v r1∧Below w.heap.size w w':=by
  (have a9:=Tryd.underlying43);have HT:=Am hT;clear hT;have j:=Am o;have i:=Am n;clear o n;have HB:=Am (Below.refl w.heap.size w);(have H:((Qaf.f c a).bind fun l=>(if l=true then((Qbd.f k c a).bind fun m=>(some (m,0)))else(some (([]:List (List Int)),1))))=some (r1,r2):=h);clear h;replace H:=Yq H;obtain⟨l,A2,H⟩:=H;(by_cases c3:l=true);(· subst c3;replace H:=Ybt H;replace H:=Yq H;obtain⟨m,A4,H⟩:=H;simp only[Option.some.injEq,Prod.mk.injEq]at H;obtain⟨rfl,rfl⟩:=H;(go_enter Tryd.func30,Tryd.ntmps30);(go_wp2_with(first|(refine Y4 1 #[.int .i64 c,.slice d a.length g] 43 ?_;intro s hg w5 hbox hb;have b:=Am (hbox);have q:=Yge HB hg;have p:=Yge HB hg;replace HB:=Zs hb;clear hb hbox hg;obtain⟨a1,a2,a5,a6⟩:=Y2 b)|(refine Y5 28 (some 5) Tryd.func28 #[.agg #[.int .i64 c,.slice d a.length g]] ?_;(with_reducible refine(Qaf.calls c _ _ a true _ ?side1 ?side2 A2.out).mono ?_);(case side1=>exact Yg (Kd.C_below j.out HB.out));(case side2=>exact i.out);rintro e w7 ⟨rfl,hb⟩;refine⟨_,rfl,?_⟩;replace b:=Zb b hb;replace HB:=Zs hb;clear hb;obtain⟨a3,a4,a7,a8⟩:=Y2 b)|(refine Y5 108 (some 8) Tryd.func108 #[.agg #[.int .i64 c,.slice d a.length g]] ?_;(with_reducible refine(Qbd.calls k c _ _ a m _ ?side1 ?side2 ?side3 A4.out).mono ?_);(case side1=>exact Yg (Kd.C_below j.out HB.out));(case side2=>exact i.out);(case side3=>exact TabW.below HT.out (Ya));rintro e w9 ⟨b0,rfl,t,hb⟩;refine⟨_,rfl,?_⟩;have r:=Am (Kd.S_lower t (below_size (Ya)));replace b:=Zb b hb;replace HB:=Zs hb;clear hb t)));(go_ret2);(exact⟨_,Yl,YcS r,Ya⟩))
  · replace c3:=Bool.eq_false_iff.mpr c3
    subst c3;replace H:=Ybf H;simp only[Option.some.injEq,Prod.mk.injEq]at H;obtain⟨rfl,rfl⟩:=H;(go_enter Tryd.func30,Tryd.ntmps30);(go_wp2_with(first|(refine Y4 1 #[.int .i64 c,.slice d a.length g] 43 ?_;intro s hg b1 hbox hb;have b:=Am (hbox);have q:=Yge HB hg;have p:=Yge HB hg;replace HB:=Zs hb;clear hb hbox hg;obtain⟨x,y,z,a0⟩:=Y2 b)|(refine Y5 28 (some 5) Tryd.func28 #[.agg #[.int .i64 c,.slice d a.length g]] ?_;(with_reducible refine(Qaf.calls c _ _ a false _ ?side1 ?side2 A2.out).mono ?_);(case side1=>exact Yg (Kd.C_below j.out HB.out));(case side2=>exact i.out);rintro e b2 ⟨rfl,hb⟩;refine⟨_,rfl,?_⟩;replace b:=Zb b hb;replace HB:=Zs hb;clear hb)));(go_ret2);(exact⟨_,Yl,by first|exact Kd.S_nil _ _ _ _ _|exact Kd.N_nil _ _ _ _ _|exact Kd.V_nil _ _ _ _ _|exact Kd.Q_nil _ _ _ _ _|exact Kd.R_nil _ _ _ _ _,Ya⟩)
def Qcq.l0:Nat→List (List Int)→List (List Int)→Int→Option (Bool)
  |0,_,_,_=>none
  |k+1,x0,x1,x5=>if x5<(x0.length:Int)then(if 0≤x5 then(if x5<(x1.length:Int)then((Qbt.f k (rd_L2 x0 x5) (rd_L2 x1 x5)).bind fun a=>(if a=true then(Qcq.l0 k x0 x1 (wrap64 (x5+1)))else(some false)))else(none))else(none))else(some true)
def Qcq.f (k:Nat) (l0:List (List Int)) (l1:List (List Int)):Option (Bool):=if(l0.length:Int)=(l1.length:Int)then(Qcq.l0 k l0 l1 0)else(some false)
set_option maxHeartbeats 8000000 in
set_option maxRecDepth 100000 in
theorem Qcq.calls (k:Nat) (A0:Option Addr) (c0:Nat) (l0:List (List Int)) (A1:Option Addr) (c1:Nat) (l1:List (List Int)) (r:Bool) (w:World) (b2:Kd.C (Kd.slice 2 (Kd.int .i64)) w A0 l0.length l0) (b0:l0.length≤c0) (b3:Kd.C (Kd.slice 2 (Kd.int .i64)) w A1 l1.length l1) (b1:l1.length≤c1) (h:Qcq.f k l0 l1=some r) :
    Calls Tryd.prog 32 #[.slice A0 l0.length c0,.slice A1 l1.length c1] w fun e w'=>e=.returned (.bool r)∧Drawn0 w w':=by
  (have a8:=Am b2);have b8:=Am b0;clear b2 b0;have a9:=Am b3;have b9:=Am b1;clear b3 b1;(have H:(if(l0.length:Int)=(l1.length:Int)then(Qcq.l0 k l0 l1 0)else(some false))=some r:=h);clear h;replace H:=Yp H;(obtain⟨c3,H⟩|⟨c3,H⟩:=H)
  · obtain⟨a2,a3⟩:=Yv c3
    (have a4:(l0.length==l1.length)=true:=by first|simpa using c3|(simp at c3 ⊢;omega));clear c3;have H':=Am H;clear H;(go_enter Tryd.func32,Tryd.ntmps32);go_wp2;(repeat(go_quiet(fail);try go_wp2));(go_loopg[5] k (fun kq v5 w'=>∃(a:Int),v5=.int .i64 a∧Aside0 (Qcq.l0 kq l0 l1 a=some r)∧Aside0 (kq≤k)∧Drawn0 w w'));(case atStart=>exact⟨(0),Yk,H',⟨Nat.le_refl _⟩,by repeat(first|exact Drawn0.refl _|apply Drawn0.step)⟩)
    case round=>
      (clear H');(try clear a2);(try clear a3);(try clear a4);(obtain⟨a,rfl,HA,a7,⟨m1,rfl⟩⟩:=hrel)
      cases gk with
      |zero=>exact absurd HA.out (by simp[Qcq.l0])
      |succ k1=>
        (have H:=HA.out);clear HA;simp only[Qcq.l0]at H;replace H:=Yp H;(obtain⟨c4,H⟩|⟨c4,H⟩:=H);(· (have b4:=decide_eq_true c4);clear c4;replace H:=Dn2 H;obtain⟨b6,b7,H⟩:=H;replace H:=Yq H;obtain⟨b5,A7,H⟩:=H;(by_cases c8:b5=true);(· subst c8;replace H:=Ybt H;have H':=Am H;clear H;have n:0≤(a:Int):=Ym;have p:a<(l0.length:Int):=Ym;obtain⟨a5,y,a0,s,v,l,i⟩:=at_L2 a8.out a n p;cases s;have d:=Am i;have b:=Am l;clear i l;replace n:=eq_true n;replace p:=eq_true p;have o:0≤(a:Int):=Ym;have q:a<(l1.length:Int):=Ym;obtain⟨a6,z,a1,t,x,m,j⟩:=at_L2 a9.out a o q;cases t;have g:=Am j;have c:=Am m;clear j m;replace o:=eq_true o;replace q:=eq_true q;(go_wp2_with(first|(go_at_call 11;(with_reducible refine(Qbt.calls k1 _ _ (rd_L2 l0 a) _ _ (rd_L2 l1 a) true _ ?side1 ?side2 ?side3 ?side4 A7.out).mono ?_);(case side1=>exact Yg d.out);(case side2=>exact b.out);(case side3=>exact Yg g.out);(case side4=>exact c.out);rintro e w' ⟨rfl,⟨nd,rfl⟩⟩;(try first|exact⟨rfl,_,World.drewN_drewN _ _ _⟩|exact⟨rfl,_,Eq.trans (World.drewN_drewN _ _ _) (congrArg (World.drewN _) (Nat.add_assoc _ _ _))⟩))));(repeat(go_quiet(first|(go_at_call 11;(with_reducible refine(Qbt.calls k1 _ _ (rd_L2 l0 a) _ _ (rd_L2 l1 a) true _ ?side1 ?side2 ?side3 ?side4 A7.out).mono ?_);(case side1=>exact Yg d.out);(case side2=>exact b.out);(case side3=>exact Yg g.out);(case side4=>exact c.out);rintro e w' ⟨rfl,⟨nd,rfl⟩⟩;(try first|exact⟨rfl,_,World.drewN_drewN _ _ _⟩|exact⟨rfl,_,Eq.trans (World.drewN_drewN _ _ _) (congrArg (World.drewN _) (Nat.add_assoc _ _ _))⟩)));try go_wp2_with(first|(go_at_call 11;(with_reducible refine(Qbt.calls k1 _ _ (rd_L2 l0 a) _ _ (rd_L2 l1 a) true _ ?side1 ?side2 ?side3 ?side4 A7.out).mono ?_);(case side1=>exact Yg d.out);(case side2=>exact b.out);(case side3=>exact Yg g.out);(case side4=>exact c.out);rintro e w' ⟨rfl,⟨nd,rfl⟩⟩;(try first|exact⟨rfl,_,World.drewN_drewN _ _ _⟩|exact⟨rfl,_,Eq.trans (World.drewN_drewN _ _ _) (congrArg (World.drewN _) (Nat.add_assoc _ _ _))⟩)))));(go_roundg k1);(case measure=>have:=a7.out;omega);(case rel=>exact⟨(wrap64 (a+1)),Yk,H',⟨by have:=a7.out;omega⟩,by repeat(first|exact Drawn0.refl _|apply Drawn0.step)⟩));(· (replace c8:=Bool.eq_false_iff.mpr c8);subst c8;replace H:=Ybf H;obtain rfl:=Option.some.inj H;have n:0≤(a:Int):=Ym;have p:a<(l0.length:Int):=Ym;obtain⟨a5,y,a0,s,v,l,i⟩:=at_L2 a8.out a n p;cases s;have d:=Am i;have b:=Am l;clear i l;replace n:=eq_true n;replace p:=eq_true p;have o:0≤(a:Int):=Ym;have q:a<(l1.length:Int):=Ym;obtain⟨a6,z,a1,t,x,m,j⟩:=at_L2 a9.out a o q;cases t;have g:=Am j;have c:=Am m;clear j m;replace o:=eq_true o;replace q:=eq_true q;(go_wp2_with(first|(go_at_call 11;(with_reducible refine(Qbt.calls k1 _ _ (rd_L2 l0 a) _ _ (rd_L2 l1 a) false _ ?side1 ?side2 ?side3 ?side4 A7.out).mono ?_);(case side1=>exact Yg d.out);(case side2=>exact b.out);(case side3=>exact Yg g.out);(case side4=>exact c.out);rintro e w' ⟨rfl,⟨nd,rfl⟩⟩;(try first|exact⟨rfl,_,World.drewN_drewN _ _ _⟩|exact⟨rfl,_,Eq.trans (World.drewN_drewN _ _ _) (congrArg (World.drewN _) (Nat.add_assoc _ _ _))⟩))));(repeat(go_quiet(first|(go_at_call 11;(with_reducible refine(Qbt.calls k1 _ _ (rd_L2 l0 a) _ _ (rd_L2 l1 a) false _ ?side1 ?side2 ?side3 ?side4 A7.out).mono ?_);(case side1=>exact Yg d.out);(case side2=>exact b.out);(case side3=>exact Yg g.out);(case side4=>exact c.out);rintro e w' ⟨rfl,⟨nd,rfl⟩⟩;(try first|exact⟨rfl,_,World.drewN_drewN _ _ _⟩|exact⟨rfl,_,Eq.trans (World.drewN_drewN _ _ _) (congrArg (World.drewN _) (Nat.add_assoc _ _ _))⟩)));try go_wp2_with(first|(go_at_call 11;(with_reducible refine(Qbt.calls k1 _ _ (rd_L2 l0 a) _ _ (rd_L2 l1 a) false _ ?side1 ?side2 ?side3 ?side4 A7.out).mono ?_);(case side1=>exact Yg d.out);(case side2=>exact b.out);(case side3=>exact Yg g.out);(case side4=>exact c.out);rintro e w' ⟨rfl,⟨nd,rfl⟩⟩;(try first|exact⟨rfl,_,World.drewN_drewN _ _ _⟩|exact⟨rfl,_,Eq.trans (World.drewN_drewN _ _ _) (congrArg (World.drewN _) (Nat.add_assoc _ _ _))⟩)))));go_ret;(exact⟨by first|rfl|(simp;done)|(simp[*];done),by repeat(first|exact Drawn0.refl _|apply Drawn0.step)⟩)));(· (have b4:=decide_eq_false c4);clear c4;obtain rfl:=Option.some.inj H;go_wp2;(repeat(go_quiet(fail);try go_wp2));go_ret;(exact⟨by first|rfl|(simp;done)|(simp[*];done),by repeat(first|exact Drawn0.refl _|apply Drawn0.step)⟩))
  · obtain⟨a2,a3⟩:=Yw c3
    (have a4:(l0.length==l1.length)=false:=by first|simpa using c3|(simp at c3 ⊢;omega));obtain rfl:=Option.some.inj H;(go_enter Tryd.func32,Tryd.ntmps32);go_wp2;(repeat(go_quiet(fail);try go_wp2));go_ret;(exact⟨by first|rfl|(simp;done)|(simp[*];done),by repeat(first|exact Drawn0.refl _|apply Drawn0.step)⟩)
def Qdf.f (a0:Int) (a1:Int):Option (Int × Int):=some (IntKind.u64.wrap ((IntKind.u64.wrap ((IntKind.u64.wrap ((a0/4294967296)*(a1/4294967296)))+((IntKind.u64.wrap ((IntKind.u64.wrap ((a0/4294967296)*(Go.bits .and .u64 a1 4294967295)))+((IntKind.u64.wrap ((Go.bits .and .u64 a0 4294967295)*(Go.bits .and .u64 a1 4294967295)))/4294967296)))/4294967296)))+((IntKind.u64.wrap ((Go.bits .and .u64 (IntKind.u64.wrap ((IntKind.u64.wrap ((a0/4294967296)*(Go.bits .and .u64 a1 4294967295)))+((IntKind.u64.wrap ((Go.bits .and .u64 a0 4294967295)*(Go.bits .and .u64 a1 4294967295)))/4294967296))) 4294967295)+(IntKind.u64.wrap ((Go.bits .and .u64 a0 4294967295)*(a1/4294967296)))))/4294967296)),IntKind.u64.wrap (a0*a1))
set_option maxHeartbeats 8000000 in
set_option maxRecDepth 100000 in
theorem Qdf.calls (a0:Int) (a1:Int) (r1:Int) (r2:Int) (w:World) (h:Qdf.f a0 a1=some (r1,r2)) :
    Calls Tryd.prog 211 #[.int .u64 a0,.int .u64 a1] w fun e w'=>e=.returned (.tuple #[.int .u64 r1,.int .u64 r2])∧Drawn0 w w':=by
  (have H:(some (IntKind.u64.wrap ((IntKind.u64.wrap ((IntKind.u64.wrap ((a0/4294967296)*(a1/4294967296)))+((IntKind.u64.wrap ((IntKind.u64.wrap ((a0/4294967296)*(Go.bits .and .u64 a1 4294967295)))+((IntKind.u64.wrap ((Go.bits .and .u64 a0 4294967295)*(Go.bits .and .u64 a1 4294967295)))/4294967296)))/4294967296)))+((IntKind.u64.wrap ((Go.bits .and .u64 (IntKind.u64.wrap ((IntKind.u64.wrap ((a0/4294967296)*(Go.bits .and .u64 a1 4294967295)))+((IntKind.u64.wrap ((Go.bits .and .u64 a0 4294967295)*(Go.bits .and .u64 a1 4294967295)))/4294967296))) 4294967295)+(IntKind.u64.wrap ((Go.bits .and .u64 a0 4294967295)*(a1/4294967296)))))/4294967296)),IntKind.u64.wrap (a0*a1)))=some (r1,r2):=h);clear h;simp only[Option.some.injEq,Prod.mk.injEq]at H;obtain⟨rfl,rfl⟩:=H;(go_enter Tryd.func211,Tryd.ntmps211);go_wp2;(go_ret2);(exact⟨by first|rfl|(simp;done)|(simp[*];done),by repeat(first|exact Drawn0.refl _|apply Drawn0.step)⟩)
def Qdm.f (a0:Int) (a1:Int):Option (Int × Int):=(Qdf.f a0 a1).bind fun a=>(some (a.1,a.2))
set_option maxHeartbeats 8000000 in
set_option maxRecDepth 100000 in
theorem Qdm.calls (a0:Int) (a1:Int) (r1:Int) (r2:Int) (w:World) (h:Qdm.f a0 a1=some (r1,r2)) :
    Calls Tryd.prog 201 #[.int .u64 a0,.int .u64 a1] w fun e w'=>e=.returned (.tuple #[.int .u64 r1,.int .u64 r2])∧Drawn0 w w':=by
  (have H:((Qdf.f a0 a1).bind fun a=>(some (a.1,a.2)))=some (r1,r2):=h);clear h;replace H:=Yq H;obtain⟨⟨b,c⟩,A3,H⟩:=H;(try dsimp only at H);simp only[Option.some.injEq,Prod.mk.injEq]at H;obtain⟨rfl,rfl⟩:=H;(go_enter Tryd.func201,Tryd.ntmps201);(go_wp2_with(first|(refine Y5 211 (some 25) Tryd.func211 #[.int .u64 a0,.int .u64 a1] ?_;(with_reducible refine(Qdf.calls a0 a1 b c _ A3.out).mono ?_);rintro e w' ⟨rfl,⟨nd,rfl⟩⟩;refine⟨_,rfl,?_⟩)));(go_ret2);(exact⟨by first|rfl|(simp;done)|(simp[*];done),by repeat(first|exact Drawn0.refl _|apply Drawn0.step)⟩)
def Qbo.f (l0:List Int) (a1:Int):Option (List Int):=if l0.length=1 then(if 0≤a1 then(if a1≤1000000 then some (List.replicate a1.toNat (rd l0 0))else none)else none)else none
theorem Qbo.mul (c:Nat) (hc:c≤1000000):Qdm.f 1 (c:Int)=some (0,(c:Int)):=by
  have a1:bits .and .u64 (c:Int) 4294967295=(c:Int):=by
    rw[show(4294967295:Int)=((4294967295:Nat):Int) from rfl,bits_and_u64_nat c _ (by omega) (by decide)]
    have:=Nat.and_two_pow_sub_one_eq_mod c 32
    rw[show(2:Nat) ^ 32-1=4294967295 from rfl]at this
    rw[this]
    omega
  have a2:bits .and .u64 1 4294967295=1:=by decide
  have w0:∀z:Int,0≤z→z<18446744073709551616→IntKind.u64.wrap z=z:=fun z h0 h1=>by rw[IntKind.wrap_u64];omega
  have d1:(1:Int)/4294967296=0:=by decide
  have d2:(c:Int)/4294967296=0:=by omega
  have a3:bits .and .u64 0 4294967295=0:=by decide
  unfold Qdm.f Qdf.f
  simp only[a1,a2,d1,d2,Int.zero_mul,Int.mul_zero,Int.one_mul,w0 0 (by decide) (by decide),w0 (c:Int) (by omega) (by omega),Int.zero_add,Int.add_zero,a3,Int.zero_ediv,Option.bind_some]
set_option maxHeartbeats 8000000 in
set_option maxRecDepth 100000 in
theorem Qbo.calls (A0:Option Addr) (c0:Nat) (l0:List Int) (a1:Int) (r:List Int) (w:World) (p:Kd.C (Kd.int .i64) w A0 l0.length l0) (d:l0.length≤c0) (h:Qbo.f l0 a1=some r) :
    Calls Tryd.prog 167 #[.slice A0 l0.length c0,.int .i64 a1] w fun e w'=>∃q:Value,e=.returned (q)∧Kd.R (Kd.int .i64) 2 w' w.heap.size (fun _=>True) q r∧Below w.heap.size w w':=by
  unfold Qbo.f at h
  split at h
  case isFalse=>cases h
  case isTrue hl=>
  split at h
  case isFalse=>cases h
  case isTrue h0=>
  split at h
  case isFalse=>cases h
  case isTrue h1=>
  obtain⟨c,rfl⟩:=Int.eq_ofNat_of_zero_le h0
  obtain rfl:=Option.some.inj h
  rw[Int.toNat_natCast]
  obtain⟨ad,ea,hcell⟩:=Kd.at_int p 0 (by omega) (by omega)
  cases ea
  have hc:c≤1000000:=by omega
  rw[show ad.add (0:Int).toNat=ad.add 0 from rfl]at hcell
  generalize rd l0 0=v at *
  clear h h0 h1 p
  rw[hl]
  rw[hl]at d
  have x:=Am d
  clear d hl
  have hmul:=Qbo.mul c hc
  have hmk:=print_make (P:=Tryd.prog) 24 2 .i64 8 Tryd.underlying24 info2 (by decide) c (by omega)
  obtain⟨Z,hZ⟩:∃Z:List Value,madeCells #[.int .i64 0] c=Z.toArray∧Z.length=c:=⟨(madeCells #[.int .i64 0] c).toList,by simp,by simp[size_madeCells]⟩
  rw[hZ.1]at hmk
  have HZ:=Am hZ.2
  have HMUL:=Am hmul
  clear hZ hmul
  have cw:IntKind.u64.wrap (c:Int)=(c:Int):=by rw[IntKind.wrap_u64];omega
  have d9:decide (9223372036854775807<(c:Int))=false:=decide_eq_false (by omega)
  have c0':0≤(c:Int):=by omega
  have c1':(c:Int)≤1000000:=by omega
  go_enter Tryd.func167,Tryd.ntmps167
  obtain⟨X,hX⟩:∃X:List Value,X.length=Nat.min 1 c∧∀u ∈ X,u=.int .i64 v:=⟨if 0<c then[.int .i64 v]else[],by show _=min 1 c;split<;>simp<;>omega,by split<;>simp⟩
  have HX:=Am hX
  clear hX
  have hu:=Tryd.underlying24
  have hsz:(Tryd.prog.info? 2).map (·.size)=some 1:=by kernel_rfl
  have HSZ:=Am hsz
  clear hsz
  go_wp2_with fail
  refine(Qdm.calls 1 (c:Int) 0 (c:Int) _ HMUL.out).mono ?_
  rintro e w2 ⟨rfl,⟨nd,rfl⟩⟩
  go_wp2_with(refine wpList_copy_splice rfl (.tmp 31) (.tmp 32) 24 24 rfl 2 hu HSZ.out _ _ _ _ _ _ rfl rfl w.heap.size 0 Z 2 ?qg X HX.out.1 ?qp ?qf ?q1 w.heap.size w ?qb (Nat.le_refl _) ?_)
  case qp=>
    intro hpos
    intro j u hj
    have hjl:=(List.getElem?_eq_some_iff.1 hj).1
    have y:X.length=min 1 c:=HX.out.1
    have j0:j=0:=by omega
    subst j0
    have hu:=HX.out.2 u (List.mem_of_getElem? hj)
    rw[hu]
    have hlt:=World.block_lt_of_cell? w _ hcell
    exact(World.cell?_alloc_lt _ _ _ hlt).trans hcell
  case qf=>have e1:X.length=min 1 c:=HX.out.1;have:=HZ.out;omega
  case qg=>exact blk_new (w.drewN nd) (.cells Z.toArray 2)
  case q1=>intro u hu;rw[HX.out.2 u hu];rfl
  case qb=>exact⟨rfl,rfl,rfl,by simp,fun i hi=>by simp[World.alloc,Array.getElem?_push,Nat.ne_of_lt hi]⟩
  intro w3 m k
  obtain⟨k0,b⟩:∃k0:Nat,X.length=k0:=⟨_,rfl⟩
  have o:k0=min 1 c:=b.symm.trans HX.out.1
  have hcur:∃cur:List Value,cur.length=c∧w3.heap[w.heap.size]? =some (.cells cur.toArray 2 (0,0))∧∀j,j<k0→cur[j]? =some (.int .i64 v):=by
    refine⟨splice Z 0 X,?_,m.out,?_⟩
    · rw[length_splice _ _ _ (by have:=HZ.out;omega)]
      exact HZ.out
    · intro j hj
      have hjx:j<X.length:=by omega
      simp only[splice,List.take_zero,List.nil_append]
      rw[List.getElem?_append_left hjx,List.getElem?_eq_getElem hjx,HX.out.2 _ (List.getElem_mem hjx)]
  rw[b]
  have HCUR:=Am hcur
  have g:=Am k
  have HK:=Am o
  clear m k hcur b o
  go_wp2
  go_loopg[8] c (fun gg s8 wr=>∃kk:Nat,kk≤c∧c-kk≤gg∧s8=.int .i64 kk∧Aside0 (0<c→0<kk)∧Aside0 (∃cur:List Value,cur.length=c∧wr.heap[w.heap.size]? =some (.cells cur.toArray 2 (0,0))∧∀j,j<kk→cur[j]? =some (.int .i64 v))∧Aside0 (Below w.heap.size w wr))
  case atStart=>exact⟨k0,by have:=HK.out;omega,by omega,rfl,⟨fun h=>by have:=HK.out;omega⟩,HCUR,g⟩
  case round=>
    clear HCUR g HK
    obtain⟨kk,hkk,hg,rfl,HP,HC,HB⟩:=hrel
    by_cases hlt:kk<c
    · have hltz:(kk:Int)<(c:Int):=by omega
      have hkz:0≤(kk:Int):=by omega
      have hkl:(kk:Int)≤(c:Int):=by omega
      obtain⟨cur,hcl,hblk,hval⟩:=HC.out
      have HCL:=Am hcl
      have HBLK:=Am hblk
      have HVAL:=Am hval
      clear hcl hblk hval HC
      obtain⟨Y,hY⟩:∃Y:List Value,Y.length=Nat.min kk (c-kk)∧∀u ∈ Y,u=.int .i64 v:=⟨List.replicate (min kk (c-kk)) (.int .i64 v),List.length_replicate,by simp⟩
      have HY:=Am hY
      clear hY
      go_wp2
      have a:=Am (blk_drew HBLK.out)
      have s:=Am (below_drew HB.out)
      go_region_held3 (fun _=>True) (exact trivial) ((refine step_copy_splice rfl (.tmp 41) (.tmp 44) 24 24 rfl 2 hu HSZ.out _ _ _ _ _ _ rfl rfl w.heap.size kk cur 2 a.out Y HY.out.1 ?rp ?rf ?r1 w.heap.size w s.out (Nat.le_refl _) ?_;(case rf=>have e1:Y.length=min kk (c-kk):=HY.out.1;have:=HCL.out;omega);(case r1=>intro u hu;rw[HY.out.2 u hu];rfl);(case rp=>intro hpos;refine⟨if_neg (by omega),_,rfl,fun j u hj=>?_⟩;have hjl:=(List.getElem?_eq_some_iff.1 hj).1;have e1:Y.length=min kk (c-kk):=HY.out.1;rw[HY.out.2 u (List.mem_of_getElem? hj),add_plain];have hb:=blk_cell a.out j;rw[hb];have:=HVAL.out j (by omega);simpa using this);intro w4 n l))
      have e1:Y.length=min kk (c-kk):=HY.out.1
      have b:=HP.out (by omega)
      have hw:IntKind.i64.wrap ((kk:Int)+(Y.length:Int))=((kk+Y.length:Nat):Int):=by rw[IntKind.wrap_i64];omega
      have hnew:∃cur:List Value,cur.length=c∧w4.heap[w.heap.size]? =some (.cells cur.toArray 2 (0,0))∧∀j,j<kk+Y.length→cur[j]? =some (.int .i64 v):=by
        refine⟨splice cur kk Y,?_,n.out,?_⟩
        · rw[length_splice _ _ _ (by have:=HCL.out;omega)]
          exact HCL.out
        · intro j hj
          have hcl:=HCL.out
          simp only[splice]
          by_cases h1:j<kk
          · rw[List.getElem?_append_left (by simp;omega),List.getElem?_take_of_lt h1]
            exact HVAL.out j h1
          · rw[List.getElem?_append_right (by simp;omega),List.getElem?_append_left (by simp;omega),List.getElem?_eq_getElem (by simp;omega),HY.out.2 _ (List.getElem_mem _)]
      have HNEW:=Am hnew
      have t:=Am l
      have E1:=Am e1
      rw[hw]
      clear hnew l n hw e1
      go_wp2
      go_roundg(c-(kk+Y.length))
      case measure=>have:=E1.out;omega
      case rel=>exact⟨kk+Y.length,by have:=E1.out;omega,by omega,rfl,⟨fun _=>by omega⟩,HNEW,t⟩
    · have hltz:¬(kk:Int)<(c:Int):=by omega
      have hkc:kk=c:=by omega
      have HKC:=Am hkc
      clear hkc
      go_wp2
      go_ret
      obtain⟨cur,hcl,hblk,hval⟩:=HC.out
      refine⟨_,rfl,?_,HB.out⟩
      have ecur:cur=encs (Value.int .i64) (List.replicate c v):=by
        refine List.ext_getElem? fun j=>?_
        by_cases hj:j<c
        · rw[hval j (by have:=HKC.out;omega)]
          simp[encs,hj]
        · rw[List.getElem?_eq_none (by omega),List.getElem?_eq_none (by simp[encs];omega)]
      refine Kd.R_of_own ⟨by simp[encs],.inr ⟨w.heap.size,c,cur.toArray,by simp,Nat.le_refl _,hblk,by simp,by unfold maxLen;omega,by simp[hcl],?_⟩⟩ (fun _ _=>trivial)
      show cur.toArray.toList.take ((List.replicate c v).length*1)=_
      rw[List.length_replicate,Nat.mul_one]
      refine Eq.trans ?_ ecur
      exact List.take_of_length_le (by simp;omega)
end Go.Proofs.YtmofdldplbplbaaDoor.P
