import Derived.Test.YtdgleeglndcjhaaGreatDoorX28
import Derived.Test.YtdgleeglndcjhaaGreatDoorX16
set_option linter.unusedSimpArgs false
set_option linter.unusedVariables false
set_option maxHeartbeats 8000000
set_option maxRecDepth 100000
namespace Go.Proofs.YtdgleeglndcjhaaGreatDoor
open Go.RowKit
theorem d4_len0 {k:Nat} (h:(d4 k).length=0):k=0:=by
 by_cases h0:k=0
 ·exact h0
 ·rw [d4_pos h0] at h;simp at h
theorem ref_Gcd (w:World) (A B:Option Addr) (n c m d X Y:Nat) (h:D4 w A n c X) (h':D4 w B m d Y) (hl:(d4 X).length≤90000) (hl':(d4 Y).length≤90000) :
  Calls Tryz.prog 213 #[.slice A n c,.slice B m d] w fun e w'=>RetD4 e w' (Nat.gcd X Y)∧Below w.heap.size w w':=by
 have HA:=qh h;have HB:=qh h';have HLA:=qh hl;have HLB:=qh hl';clear h h' hl hl';go_enter Tryz.func213,Tryz.ntmps213;go_wp2_with fail;go_loopg [0,1] Y (fun G s0 s1 wr=>∃ (A1:Option Addr) (n1 c1:Nat) (B1:Option Addr) (m1 d1 x y:Nat),G=y∧s0=.slice A1 n1 c1∧s1=.slice B1 m1 d1∧D4 wr A1 n1 c1 x∧D4 wr B1 m1 d1 y∧Nat.gcd x y=Nat.gcd X Y∧(d4 x).length≤90000∧(d4 y).length≤90000∧Below w.heap.size w wr)
 case atStart=>exact ⟨A,n,c,B,m,d,X,Y,rfl,rfl,rfl,HA.o,HB.o,rfl,HLA.o,HLB.o,Below.refl _ _⟩
 case round =>
  obtain ⟨A1,n1,c1,B1,m1,d1,x,y,rfl,rfl,rfl,ha,hb,hg,hx,hy,hbw⟩:=hrel;have HA1:=qh ha;have HB1:=qh hb;have HG:=qh hg;have HX:=qh hx;have HY:=qh hy;have HBW:=qh hbw;have hm1:=hb.1.len;have HM1:=qh hm1;clear ha hb hg hx hy hbw HA HB HLA HLB;by_cases h0:0<m1
  ·have h0I:(0:Int)<(m1:Int):=by omega
   have hgk:gk≠0:=by
    intro e;have h1:=HM1.o;rw [e,d4_zero] at h1;simp at h1;omega
   have hmm:x % gk<gk:=Nat.mod_lt _ (by omega);have HGK:=qh hgk;have HMM:=qh hmm;clear hm1 hgk hmm;go_wp2_with fail;refine (ref_Div _ A1 B1 n1 c1 m1 d1 x gk HA1.o HB1.o HX.o HY.o HGK.o).mono ?_;rintro e w2 ⟨⟨A2,n2,c2,A3,n3,c3,rfl,hq,hr⟩,hb2⟩;have HR:=qh hr;have HB2:=qh hb2;clear hq hr hb2;dsimp only;go_wp2_with fail
   go_roundg (x % gk)
   case measure=>exact HMM.o
   case rel=>exact ⟨B1,m1,d1,A3,n3,c3,gk,x % gk,rfl,rfl,rfl,HB1.o.below HB2.o ql,HR.o,by rw [← HG.o,Nat.gcd_comm,← Nat.gcd_rec gk x,Nat.gcd_comm],HY.o,Nat.le_trans (d4_len_le (Nat.le_of_lt HMM.o)) HY.o,HBW.o.trans (HB2.o.mono HBW.o.size)⟩
  ·have h0I:¬ (0:Int)<(m1:Int):=by omega
   have hgk:gk=0:=d4_len0 (by omega);have hgx:Nat.gcd X Y=x:=by rw [← HG.o,hgk,Nat.gcd_zero_right]
   have HGX:=qh hgx;clear hm1 hgk hgx;go_wp2_with fail;go_ret
   exact ⟨⟨A1,n1,c1,rfl,by rw [HGX.o];exact HA1.o⟩,HBW.o⟩
theorem ref_Pow (w:World) (A:Option Addr) (n c k X:Nat) (h:D4 w A n c X) (hX:0<X) (hl:(d4 (X ^ (k+1))).length≤90000) (hk:k≤1000000) :
  Calls Tryz.prog 237 #[.slice A n c,.int .i64 (k:Int)] w fun e w'=>RetD4 e w' (X ^ k)∧Below w.heap.size w w':=by
 have HA:=qh h;have HX:=qh hX;have HL:Hid (∀ i,i≤k+1→(d4 (X ^ i)).length≤90000):=fun i hi=>Nat.le_trans (d4_len_le (Nat.pow_le_pow_right hX hi)) hl;have hkI:(k:Int)≤1000000:=by omega
 have hk0:(0:Int)≤(k:Int):=by omega
 clear h hX hl;go_enter Tryz.func237,Tryz.ntmps237;go_wp2_with fail;refine (ref_Small w 1 (by decide)).mono ?_;rintro e w1 ⟨⟨A1,n1,c1,rfl,hd1⟩,hb1⟩;have HD1:=qh hd1;have HB1:=qh hb1;clear hd1 hb1;dsimp only;go_wp2_with fail;go_loopw [5,6] (fun s5 s6 wr=>∃ (i:Nat) (B1:Option Addr) (m1 d1:Nat),s6=.int .i64 i∧i≤k∧s5=.slice B1 m1 d1∧D4 wr B1 m1 d1 (X ^ i)∧Below w.heap.size w wr) (fun _ s6 _=>k - (intOf s6).toNat)
 case atStart=>exact ⟨0,A1,n1,c1,rfl,by omega,rfl,HD1.o,HB1.o⟩
 case round =>
  obtain ⟨i,B1,m1,d1,rfl,hi,rfl,hd,hbw⟩:=hrel;obtain ⟨wo,rfl⟩:∃ wo:World,wo=wr:=⟨_,rfl⟩;have HD:=qh hd;have HBW:=qh hbw;clear hd hbw HD1 HB1;by_cases hik:i<k
  ·have hikI:(i:Int)<(k:Int):=by omega
   go_wp2_with fail;refine (ref_Mul wo B1 A m1 d1 n c (X ^ i) X HD.o (HA.o.below HBW.o ql) (by have:=HL.o i (by omega);omega) (by have:=HL.o 1 (by omega);rw [Nat.pow_one] at this;omega)).mono ?_;rintro e w2 ⟨⟨A2,n2,c2,rfl,hd2⟩,hb2⟩;have HD2:=qh hd2;have HB2:=qh hb2;clear hd2 hb2;dsimp only;go_wp2_with fail;refine ⟨⟨i+1,A2,n2,c2,by go_num,by omega,rfl,by rw [Nat.pow_succ];exact HD2.o,HBW.o.trans (HB2.o.mono HBW.o.size)⟩,by simp [intOf];omega⟩
  ·obtain rfl:i=k:=by omega
   have hikI:¬ (i:Int)<(i:Int):=by omega
   go_wp2_with fail;go_ret
   exact ⟨⟨B1,m1,d1,rfl,HD.o⟩,HBW.o⟩
theorem ten_len {k:Nat} (h:k≤300000):(d4 (10 ^ k)).length≤90000 :=
 Nat.le_trans (d4_len (n:=k / 4+1) (by
  have e:(10000:Nat)=10 ^ 4:=rfl;rw [e,← Nat.pow_mul]
  exact Nat.pow_lt_pow_right (by omega) (by omega))) (by omega)
theorem ref_Ten (w:World) (k:Nat) (hk:k≤200000) :
  Calls Tryz.prog 210 #[.int .i64 (k:Int)] w fun e w'=>RetD4 e w' (10 ^ k)∧Below w.heap.size w w':=by
 have HL:Hid ((d4 (10 ^ (k+1))).length≤90000):=ten_len (by omega);go_enter Tryz.func210,Tryz.ntmps210;go_wp2_with fail;refine (ref_Small w 10 (by decide)).mono ?_;rintro e w1 ⟨⟨A1,n1,c1,rfl,hd1⟩,hb1⟩;have HD1:=qh hd1;have HB1:=qh hb1;clear hd1 hb1;dsimp only;go_wp2_with fail;refine (ref_Pow w1 A1 n1 c1 k 10 HD1.o (by decide) HL.o (by omega)).mono ?_;rintro e w2 ⟨⟨A2,n2,c2,rfl,hd2⟩,hb2⟩;have HD2:=qh hd2;have HB2:=qh hb2;clear hd2 hb2;dsimp only;go_wp2_with fail;go_ret
 exact ⟨⟨A2,n2,c2,rfl,HD2.o⟩,HB1.o.trans (HB2.o.mono HB1.o.size)⟩
structure RZ4 (w:World) (b:Bool) (A:Option Addr) (n c:Nat) (z:Int):Prop where
 sign:b=decide (z<0)
 d4:D4 w A n c z.natAbs
def RetZ4 (e:Ending) (w':World) (z:Int):Prop:=∃ b A n c,e=.returned (.agg #[.bool b,.slice A n c])∧RZ4 w' b A n c z
theorem RZ4.below {w w':World} {b:Bool} {A:Option Addr} {n c B:Nat} {z:Int} (h:RZ4 w b A n c z) (hb:Below B w w') (hB:w.heap.size≤B):RZ4 w' b A n c z:=⟨h.sign,h.d4.below hb hB⟩
def signed (b:Bool) (k:Nat):Int:=if b then -(k:Int) else k
theorem signed_form (b:Bool) (k:Nat):(b && decide (0<k))=decide (signed b k<0)∧(signed b k).natAbs=k:=by
 cases b <;> simp [signed] <;> omega
theorem d4_len_pos (k:Nat):(0<(d4 k).length)↔0<k:=by
 constructor
 ·intro h;by_cases h0:k=0
  ·subst h0;rw [d4_zero] at h;simp at h
  ·omega
 ·intro h;rw [d4_pos (by omega)];simp
theorem ref_ZOf (w:World) (b:Bool) (A:Option Addr) (n c k:Nat) (h:D4 w A n c k) :
  Calls Tryz.prog 172 #[.bool b,.slice A n c] w fun e w'=>RetZ4 e w' (signed b k)∧Below w.heap.size w w':=by
 have HX:=qh h;have hn:=h.1.len;have hs:=signed_form b k;have hp:=d4_len_pos k;rw [← hn] at hp;have HP:=qh hp;have HS:=qh hs;clear h hn hs hp;have HBB:Hid (∀ l t,Below w.heap.size w (w.alloc (.cells l t))∧D4 (w.alloc (.cells l t)) A n c k):=fun l t=>⟨(Below.refl _ _).alloc ql _,HX.o.below ((Below.refl _ _).alloc ql _) ql⟩;by_cases h0:0<n
 ·have h0I:(0:Int)<(n:Int):=by omega
  cases b
  ·go_enter Tryz.func172,Tryz.ntmps172;go_wp2_with fail;have B0:Blk (w.alloc (.cells #[.bool false,.slice A n c] 171)) w.heap.size 171 [.bool false,.slice A n c]:=Blk.made _ _ _ _ _ rfl rfl;obtain ⟨r0,r1⟩:=B0.c2;refine bodyPost_ret (v:=.agg #[.bool false,.slice A n c]) (by simp [results,Tryz.results172,go_sem,r0,r1];try rfl) rfl ?_;refine ⟨⟨_,A,n,c,rfl,⟨?_,?_⟩⟩,(HBB.o _ _).1⟩
   ·rw [← HS.o.1];simp
   ·rw [HS.o.2];exact (HBB.o _ _).2
  ·go_enter Tryz.func172,Tryz.ntmps172;go_wp2_with fail;have B0:Blk (w.alloc (.cells #[.bool true,.slice A n c] 171)) w.heap.size 171 [.bool true,.slice A n c]:=Blk.made _ _ _ _ _ rfl rfl;obtain ⟨r0,r1⟩:=B0.c2;refine bodyPost_ret (v:=.agg #[.bool true,.slice A n c]) (by simp [results,Tryz.results172,go_sem,r0,r1];try rfl) rfl ?_;refine ⟨⟨_,A,n,c,rfl,⟨?_,?_⟩⟩,(HBB.o _ _).1⟩
   ·rw [← HS.o.1];simp [HP.o.1 h0]
   ·rw [HS.o.2];exact (HBB.o _ _).2
 ·have h0I:¬ (0:Int)<(n:Int):=by omega
  cases b
  ·go_enter Tryz.func172,Tryz.ntmps172;go_wp2_with fail;have B0:Blk (w.alloc (.cells #[.bool false,.slice A n c] 171)) w.heap.size 171 [.bool false,.slice A n c]:=Blk.made _ _ _ _ _ rfl rfl;obtain ⟨r0,r1⟩:=B0.c2;refine bodyPost_ret (v:=.agg #[.bool false,.slice A n c]) (by simp [results,Tryz.results172,go_sem,r0,r1];try rfl) rfl ?_;refine ⟨⟨_,A,n,c,rfl,⟨?_,?_⟩⟩,(HBB.o _ _).1⟩
   ·rw [← HS.o.1];simp
   ·rw [HS.o.2];exact (HBB.o _ _).2
  ·go_enter Tryz.func172,Tryz.ntmps172;go_wp2_with fail;have B0:Blk (w.alloc (.cells #[.bool false,.slice A n c] 171)) w.heap.size 171 [.bool false,.slice A n c]:=Blk.made _ _ _ _ _ rfl rfl;obtain ⟨r0,r1⟩:=B0.c2;refine bodyPost_ret (v:=.agg #[.bool false,.slice A n c]) (by simp [results,Tryz.results172,go_sem,r0,r1];try rfl) rfl ?_;refine ⟨⟨_,A,n,c,rfl,⟨?_,?_⟩⟩,(HBB.o _ _).1⟩
   ·rw [← HS.o.1];have h1:¬ 0<k:=fun h=>h0 (HP.o.2 h);simp [h1]
   ·rw [HS.o.2];exact (HBB.o _ _).2
def NoI (l:List Value):Prop:=∀ x ∈ l,∀ z,x≠.int .i64 z
theorem D4.apart {w w':World} {A:Option Addr} {m c k g:Nat} {t:TypeId} {l:List Value} (hs:D4 w A m c k) (hB:Blk w g t l) (hl:NoI l) (hk:∀ b,b<w.heap.size→b≠g→w'.heap[b]?=w.heap[b]?):D4 w' A m c k:=by
 obtain ⟨⟨A',c',h1,h2,h3,h4⟩,hd⟩:=hs;refine ⟨⟨A',c',h1,h2,h3,fun hp=>?_⟩,hd⟩;obtain ⟨b,o,h5,h6⟩:=h4 hp
 have hne:b≠g:=by
  rintro rfl;obtain ⟨x,hx⟩:∃ x,(d4 k)[0]?=some x:=⟨_,List.getElem?_eq_getElem (by simpa using hp)⟩;have h0:=h6 0 (.int .i64 (x:Int)) (by rw [List.getElem?_map,hx];rfl);rw [hB.cell] at h0;exact hl _ (List.mem_of_getElem? h0) _ rfl
 refine ⟨b,o,h5,fun j x hx=>?_⟩;have:=h6 j x hx;rw [← this];unfold World.cell?;rw [hk b (World.block_lt_of_cell? w _ this) hne]
theorem D4.put2 {w:World} {A:Option Addr} {m c k g:Nat} {t:TypeId} {l:List Value} (hs:D4 w A m c k) (hB:Blk w g t l) (hl:NoI l) (u v:Value):D4 ((w.setCell ⟨g,0,none⟩ u).setCell ⟨g,1,none⟩ v) A m c k :=
 hs.apart hB hl fun b _ hne=>by rw [Below.heap_setCell _ _ _ _ hne,Below.heap_setCell _ _ _ _ hne]
theorem noI_z (b:Bool) (A:Option Addr) (n c:Nat):NoI [.bool b,.slice A n c]:=by
 intro x hx z;rcases List.mem_cons.1 hx with rfl|hx
 ·simp
 ·obtain rfl:=List.mem_singleton.1 hx;simp
theorem signed_of {b:Bool} {x:Int} (h:b=decide (x<0)):signed b x.natAbs=x∧signed (!b) x.natAbs=-x:=by
 subst h;by_cases h:x<0 <;> simp [signed,h] <;> omega
theorem ref_ZNeg (w:World) (b:Bool) (A:Option Addr) (n c:Nat) (x:Int) (hx:RZ4 w b A n c x) :
  Calls Tryz.prog 174 #[.agg #[.bool b,.slice A n c]] w fun e w'=>RetZ4 e w' (-x)∧Below w.heap.size w w':=by
 have HX:=qh hx;clear hx;go_enter Tryz.func174,Tryz.ntmps174;go_wp2_with fail;refine calls_letter (fun w1=>Blk w1 w.heap.size 171 [.bool b,.slice A n c]∧Blk w1 (w.heap.size+1) 171 [.bool false,.slice none 0 0]∧Below w.heap.size w w1) ⟨((Blk.made _ 171 _ _ _ (by simp) rfl).alloc _),(Blk.made _ 171 _ _ _ (by simp) rfl),((Below.refl _ _).alloc ql _).alloc (by simp) _⟩ ?_;rintro w1 ⟨b0,b1,hb⟩;have HB:=qh hb;have H1:=qh b1;clear hb b0 b1;refine (ref_ZOf w1 (!b) A n c x.natAbs (HX.o.d4.below HB.o ql)).mono ?_;rintro e w2 ⟨⟨b3,A3,n3,c3,rfl,hr3⟩,hb2⟩;rw [(signed_of HX.o.sign).2] at hr3;have H2:=qh (H1.o.below hb2 H1.o.lt);obtain ⟨k0,k1⟩:=H2.o.c2;have f0:=H2.o.frozen 0;have f1:=H2.o.frozen 1;have HR:=qh hr3;have HB2:Hid (Below w.heap.size w w2):=HB.o.trans (hb2.mono HB.o.size);clear hr3 hb2;dsimp only;go_wp2_with fail;have hf:=(H2.o.put 0 (.bool b3)).put 1 (.slice A3 n3 c3);simp only [M0,M1] at hf;have hd:=HR.o.d4.put2 H2.o (noI_z _ _ _ _) (.bool b3) (.slice A3 n3 c3);have hb3:Below w.heap.size w ((w2.setCell ⟨w.heap.size+1,0,none⟩ (.bool b3)).setCell ⟨w.heap.size+1,1,none⟩ (.slice A3 n3 c3)):=(HB2.o.setCell (by simp) _).setCell (by simp) _;obtain ⟨r0,r1⟩:=hf.c2;generalize ((w2.setCell ⟨w.heap.size+1,0,none⟩ (.bool b3)).setCell ⟨w.heap.size+1,1,none⟩ (.slice A3 n3 c3))=wf at *
 refine bodyPost_ret (v:=.agg #[.bool b3,.slice A3 n3 c3]) (by simp [results,Tryz.results174,go_sem,r0,r1];try rfl) rfl ?_;exact ⟨⟨_,_,_,_,rfl,HR.o.sign,hd⟩,hb3⟩
theorem ref_ZSign (w:World) (b:Bool) (A:Option Addr) (n c:Nat) (x:Int) (hx:RZ4 w b A n c x) :
  Calls Tryz.prog 215 #[.agg #[.bool b,.slice A n c]] w fun e w'=>e=.returned (.int .i64 x.sign)∧Below w.heap.size w w':=by
 have hn:=hx.d4.1.len;have hs:=hx.sign;have hp:=d4_len_pos x.natAbs;rw [← hn] at hp;clear hx hn;have HBB:Hid (∀ l t,Below w.heap.size w (w.alloc (.cells l t))):=fun l t=>(Below.refl _ _).alloc ql _;rcases Int.lt_trichotomy x 0 with h|h|h
 ·obtain rfl:b=true:=by rw [hs];simpa using h
  have HS:=qh (Int.sign_eq_neg_one_of_neg h);clear hs hp h;go_enter Tryz.func215,Tryz.ntmps215;go_wp2_with fail;go_ret
  exact ⟨by rw [HS.o];rfl,HBB.o _ _⟩
 ·obtain rfl:b=false:=by rw [hs];simp [h]
  have h0I:¬ (0:Int)<(n:Int):=by subst h;simp at hp;omega
  have HS:Hid (x.sign=0):=by subst h;rfl
  clear hs hp h;go_enter Tryz.func215,Tryz.ntmps215;go_wp2_with fail;go_ret
  exact ⟨by rw [HS.o];rfl,HBB.o _ _⟩
 ·obtain rfl:b=false:=by rw [hs];simp;omega
  have h0I:(0:Int)<(n:Int):=by have:=hp.2 (by omega);omega
  have HS:=qh (Int.sign_eq_one_of_pos h);clear hs hp h;go_enter Tryz.func215,Tryz.ntmps215;go_wp2_with fail;go_ret
  exact ⟨by rw [HS.o];rfl,HBB.o _ _⟩
theorem D4.hold {W w:World} {g n:Nat} {t:TypeId} {l:List Value} {A:Option Addr} {m c k:Nat} (h:Hold W g t n w) (hB:Blk W g t l) (hl:NoI l) (hs:D4 W A m c k):D4 w A m c k :=
 hs.apart hB hl fun b hb hne=>h.1.block b hb (by intro h;cases h;exact hne rfl)
theorem zmul4 {b b':Bool} {x y:Int} (h:b=decide (x<0)) (h':b'=decide (y<0)):signed (!(b == b')) (x.natAbs * y.natAbs)=x * y:=by
 unfold signed;exact zmul h h'
theorem ref_ZMul (w:World) (b b':Bool) (A A':Option Addr) (n c n' c':Nat) (x y:Int) (hx:RZ4 w b A n c x) (hy:RZ4 w b' A' n' c' y) (hbx:(d4 x.natAbs).length≤100000) (hby:(d4 y.natAbs).length≤100000) :
  Calls Tryz.prog 171 #[.agg #[.bool b,.slice A n c],.agg #[.bool b',.slice A' n' c']] w fun e w'=>RetZ4 e w' (x * y)∧Below w.heap.size w w':=by
 have HX:=qh hx;have HY:=qh hy;have HBX:=qh hbx;have HBY:=qh hby;clear hx hy hbx hby;go_enter Tryz.func171,Tryz.ntmps171;go_wp2_with fail;refine wp_letter (fun w1=>Blk w1 w.heap.size 171 [.bool b,.slice A n c]∧Blk w1 (w.heap.size+1) 171 [.bool b',.slice A' n' c']∧Blk w1 (w.heap.size+1+1) 171 [.bool false,.slice none 0 0]∧Below w.heap.size w w1) ⟨(((Blk.made _ 171 _ _ _ (by simp) rfl).alloc _).alloc _),((Blk.made _ 171 _ _ _ (by simp) rfl).alloc _),(Blk.made _ 171 _ _ _ (by simp) rfl),((((Below.refl _ _).alloc (by simp;try omega) _).alloc (by simp;try omega) _).alloc (by simp;try omega) _)⟩ ?_;rintro w1 ⟨b0,b1,b2,hb⟩;obtain ⟨k00,k01⟩:=b0.c2;obtain ⟨k10,k11⟩:=b1.c2;obtain ⟨k20,k21⟩:=b2.c2;have HB:=qh hb;have H0:=qh b0;have H1:=qh b1;have H2:=qh b2;have hz:=b2.lt;clear hb b0 b1 b2;have HX1:Hid (D4 w1 A n c x.natAbs):=HX.o.d4.below HB.o ql;have HY1:Hid (D4 w1 A' n' c' y.natAbs):=HY.o.d4.below HB.o ql;have HKK:Hid (∀ w',Hold w1 (w.heap.size+1+1) 171 2 w'→w'.cell? ⟨w.heap.size,0,none⟩=some (.bool b)∧w'.cell? ⟨w.heap.size,1,none⟩=some (.slice A n c)∧w'.cell? ⟨w.heap.size+1,0,none⟩=some (.bool b')∧w'.cell? ⟨w.heap.size+1,1,none⟩=some (.slice A' n' c')∧w'.cell? ⟨w.heap.size+1+1,0,none⟩=some (cellAt w' ⟨w.heap.size+1+1,0,none⟩)∧w'.cell? ⟨w.heap.size+1+1,1,none⟩=some (cellAt w' ⟨w.heap.size+1+1,1,none⟩)∧w'.frozen? ⟨w.heap.size+1+1,0,none⟩=false∧w'.frozen? ⟨w.heap.size+1+1,1,none⟩=false∧Hold w1 (w.heap.size+1+1) 171 2 w'):=fun w' h=>⟨(h.blk H0.o (by omega)).cell 0,(h.blk H0.o (by omega)).cell 1,(h.blk H1.o (by omega)).cell 0,(h.blk H1.o (by omega)).cell 1,h.cell 0 (by omega),h.cell 1 (by omega),h.frozen 0,h.frozen 1,h⟩;have HSt:Hid (Hold w1 (w.heap.size+1+1) 171 2 w1):=Hold.start H2.o (by simp [No32])
 go_region_held3 (fun w'=>w'.cell? ⟨w.heap.size,0,none⟩=some (.bool b)∧w'.cell? ⟨w.heap.size,1,none⟩=some (.slice A n c)∧w'.cell? ⟨w.heap.size+1,0,none⟩=some (.bool b')∧w'.cell? ⟨w.heap.size+1,1,none⟩=some (.slice A' n' c')∧w'.cell? ⟨w.heap.size+1+1,0,none⟩=some (cellAt w' ⟨w.heap.size+1+1,0,none⟩)∧w'.cell? ⟨w.heap.size+1+1,1,none⟩=some (cellAt w' ⟨w.heap.size+1+1,1,none⟩)∧w'.frozen? ⟨w.heap.size+1+1,0,none⟩=false∧w'.frozen? ⟨w.heap.size+1+1,1,none⟩=false∧Hold w1 (w.heap.size+1+1) 171 2 w')
  (first|exact HKK.o _ HSt.o.drew|(go_split_ands;first|exact HKK.o _ (Hold.call ‹Hold w1 (w.heap.size+1+1) 171 2 _› hb2)|exact HKK.o _ (Hold.call ‹Hold w1 (w.heap.size+1+1) 171 2 _› hb3)|exact HKK.o _ ((‹Hold w1 (w.heap.size+1+1) 171 2 _›.set 0 _ (by simp)).set 1 _ (by simp))))
  (first|((with_reducible refine (ref_Mul _ A A' n c n' c' x.natAbs y.natAbs ?_ ?_ HBX.o HBY.o).mono ?_);(refine D4.hold (W:=w1) (g:=w.heap.size+1+1) (t:=171) (n:=2) ?_ H2.o (noI_z _ _ _ _) HX1.o;(go_split_ands;assumption));(refine D4.hold (W:=w1) (g:=w.heap.size+1+1) (t:=171) (n:=2) ?_ H2.o (noI_z _ _ _ _) HY1.o;(go_split_ands;assumption));rintro e w2 ⟨⟨A2,n2,c2,rfl,hr2⟩,hb2⟩)|((with_reducible refine (ref_ZOf _ _ A2 n2 c2 _ hr2).mono ?_);rintro e w3 ⟨⟨b3,A3,n3,c3,rfl,hr3⟩,hb3⟩))
 rw [zmul4 HX.o.sign HY.o.sign] at hr3;have hh:=((HSt.o.drew.call hb2).call hb3);have hf:=hh.fill2 (.bool b3) (.slice A3 n3 c3);have hg:=((hh.set 0 (.bool b3) (by simp)).set 1 (.slice A3 n3 c3) (by simp));have hB3:Blk w3 (w.heap.size+1+1) 171 [.bool false,.slice none 0 0]:=((H2.o.below ((Below.refl w1.heap.size w1).drew) H2.o.lt).below hb2 H2.o.lt).below hb3 (((H2.o.below ((Below.refl w1.heap.size w1).drew) H2.o.lt).below hb2 H2.o.lt).lt);have hs:=hr3.d4.put2 hB3 (noI_z _ _ _ _) (.bool b3) (.slice A3 n3 c3);obtain ⟨r0,r1⟩:=hf.c2;generalize ((w3.setCell ⟨w.heap.size+1+1,0,none⟩ (.bool b3)).setCell ⟨w.heap.size+1+1,1,none⟩ (.slice A3 n3 c3))=wf at *
 go_wp2
 refine bodyPost_ret (v:=.agg #[.bool b3,.slice A3 n3 c3]) (by simp [results,Tryz.results171,go_sem,r0,r1];try rfl) rfl ?_;exact ⟨⟨_,_,_,_,rfl,hr3.sign,hs⟩,HB.o.trans (hg.below (by omega))⟩
theorem zadd4_same {b b':Bool} {x y:Int} (h:b=decide (x<0)) (h':b'=decide (y<0)) (hb:b=b'):signed b (x.natAbs+y.natAbs)=x+y:=by
 unfold signed;exact zadd_same h h' hb
theorem zadd4_left {b b':Bool} {x y:Int} (h:b=decide (x<0)) (h':b'=decide (y<0)) (hb:¬ b=b') (hle:y.natAbs≤x.natAbs):signed b (x.natAbs - y.natAbs)=x+y:=by
 unfold signed;exact zadd_left h h' hb hle
theorem zadd4_right {b b':Bool} {x y:Int} (h:b=decide (x<0)) (h':b'=decide (y<0)) (hb:¬ b=b') (hle:x.natAbs<y.natAbs):signed b' (y.natAbs - x.natAbs)=x+y:=by
 unfold signed;exact zadd_right h h' hb (Nat.le_of_lt hle)
theorem ref_ZAdd (w:World) (b b':Bool) (A A':Option Addr) (n c n' c':Nat) (x y:Int) (hx:RZ4 w b A n c x) (hy:RZ4 w b' A' n' c' y) (hbx:(d4 x.natAbs).length≤100000) (hby:(d4 y.natAbs).length≤100000) :
  Calls Tryz.prog 173 #[.agg #[.bool b,.slice A n c],.agg #[.bool b',.slice A' n' c']] w fun e w'=>RetZ4 e w' (x+y)∧Below w.heap.size w w':=by
 have HX:=qh hx;have HY:=qh hy;have HBX:=qh hbx;have HBY:=qh hby;clear hx hy hbx hby;go_enter Tryz.func173,Tryz.ntmps173;go_upto_region 1 with fail;refine wp_letter (fun w1=>Blk w1 w.heap.size 171 [.bool b,.slice A n c]∧Blk w1 (w.heap.size+1) 171 [.bool b',.slice A' n' c']∧Blk w1 (w.heap.size+1+1) 171 [.bool false,.slice none 0 0]∧Below w.heap.size w w1) ⟨(((Blk.made _ 171 _ _ _ (by simp) rfl).alloc _).alloc _),((Blk.made _ 171 _ _ _ (by simp) rfl).alloc _),(Blk.made _ 171 _ _ _ (by simp) rfl),((((Below.refl _ _).alloc (by simp;try omega) _).alloc (by simp;try omega) _).alloc (by simp;try omega) _)⟩ ?_;rintro w1 ⟨b0,b1,b2,hb⟩;obtain ⟨k00,k01⟩:=b0.c2;obtain ⟨k10,k11⟩:=b1.c2;have HB:=qh hb;have K0:=qh b0;have K1:=qh b1;have K2:=qh b2;have hz:=b2.lt;clear hb b0 b1 b2;have HX1:Hid (D4 w1 A n c x.natAbs):=HX.o.d4.below HB.o ql;have HY1:Hid (D4 w1 A' n' c' y.natAbs):=HY.o.d4.below HB.o ql;by_cases hbb:b=b'
 ·have e0:(b == b')=true:=by simp [hbb]
  have HBB:=qh hbb;clear hbb;go_wp2_with fail;have HKK:Hid (∀ w',Hold w1 (w.heap.size+1+1) 171 2 w'→w'.cell? ⟨w.heap.size,0,none⟩=some (.bool b)∧w'.cell? ⟨w.heap.size,1,none⟩=some (.slice A n c)∧w'.cell? ⟨w.heap.size+1,0,none⟩=some (.bool b')∧w'.cell? ⟨w.heap.size+1,1,none⟩=some (.slice A' n' c')∧w'.cell? ⟨w.heap.size+1+1,0,none⟩=some (cellAt w' ⟨w.heap.size+1+1,0,none⟩)∧w'.cell? ⟨w.heap.size+1+1,1,none⟩=some (cellAt w' ⟨w.heap.size+1+1,1,none⟩)∧w'.frozen? ⟨w.heap.size+1+1,0,none⟩=false∧w'.frozen? ⟨w.heap.size+1+1,1,none⟩=false∧Hold w1 (w.heap.size+1+1) 171 2 w'):=fun w' h=>⟨(h.blk K0.o (by omega)).cell 0,(h.blk K0.o (by omega)).cell 1,(h.blk K1.o (by omega)).cell 0,(h.blk K1.o (by omega)).cell 1,h.cell 0 (by omega),h.cell 1 (by omega),h.frozen 0,h.frozen 1,h⟩;have HSt:Hid (Hold w1 (w.heap.size+1+1) 171 2 w1):=Hold.start K2.o (by simp [No32])
  go_region_held3 (fun w'=>w'.cell? ⟨w.heap.size,0,none⟩=some (.bool b)∧w'.cell? ⟨w.heap.size,1,none⟩=some (.slice A n c)∧w'.cell? ⟨w.heap.size+1,0,none⟩=some (.bool b')∧w'.cell? ⟨w.heap.size+1,1,none⟩=some (.slice A' n' c')∧w'.cell? ⟨w.heap.size+1+1,0,none⟩=some (cellAt w' ⟨w.heap.size+1+1,0,none⟩)∧w'.cell? ⟨w.heap.size+1+1,1,none⟩=some (cellAt w' ⟨w.heap.size+1+1,1,none⟩)∧w'.frozen? ⟨w.heap.size+1+1,0,none⟩=false∧w'.frozen? ⟨w.heap.size+1+1,1,none⟩=false∧Hold w1 (w.heap.size+1+1) 171 2 w')
   (first|exact HKK.o _ HSt.o.drew|(go_split_ands;first|exact HKK.o _ (Hold.call ‹Hold w1 (w.heap.size+1+1) 171 2 _› hb2)|exact HKK.o _ (Hold.call ‹Hold w1 (w.heap.size+1+1) 171 2 _› hb3)|exact HKK.o _ ((‹Hold w1 (w.heap.size+1+1) 171 2 _›.set 0 _ (by simp)).set 1 _ (by simp))))
   (first|((with_reducible refine (ref_Add _ A A' n c n' c' x.natAbs y.natAbs ?_ ?_ HBX.o HBY.o).mono ?_);(refine D4.hold (W:=w1) (g:=w.heap.size+1+1) (t:=171) (n:=2) ?_ K2.o (noI_z _ _ _ _) HX1.o;(go_split_ands;assumption));(refine D4.hold (W:=w1) (g:=w.heap.size+1+1) (t:=171) (n:=2) ?_ K2.o (noI_z _ _ _ _) HY1.o;(go_split_ands;assumption));rintro e w2 ⟨⟨A2,n2,c2,rfl,hr2⟩,hb2⟩)|((with_reducible refine (ref_ZOf _ _ A2 n2 c2 _ hr2).mono ?_);rintro e w3 ⟨⟨b3,A3,n3,c3,rfl,hr3⟩,hb3⟩))
  rw [zadd4_same HX.o.sign HY.o.sign HBB.o] at hr3;have hh:=((HSt.o.drew.call hb2).call hb3);have hf:=hh.fill2 (.bool b3) (.slice A3 n3 c3);have hg:=((hh.set 0 (.bool b3) (by simp)).set 1 (.slice A3 n3 c3) (by simp));have hB3:Blk w3 (w.heap.size+1+1) 171 [.bool false,.slice none 0 0]:=((K2.o.below ((Below.refl w1.heap.size w1).drew) K2.o.lt).below hb2 K2.o.lt).below hb3 (((K2.o.below ((Below.refl w1.heap.size w1).drew) K2.o.lt).below hb2 K2.o.lt).lt);have hs:=hr3.d4.put2 hB3 (noI_z _ _ _ _) (.bool b3) (.slice A3 n3 c3);obtain ⟨r0,r1⟩:=hf.c2;generalize ((w3.setCell ⟨w.heap.size+1+1,0,none⟩ (.bool b3)).setCell ⟨w.heap.size+1+1,1,none⟩ (.slice A3 n3 c3))=wf at *
  go_wp2
  refine bodyPost_ret (v:=.agg #[.bool b3,.slice A3 n3 c3]) (by simp [results,Tryz.results173,go_sem,r0,r1];try rfl) rfl ?_;exact ⟨⟨_,_,_,_,rfl,hr3.sign,hs⟩,HB.o.trans (hg.below (by omega))⟩
 ·have e0:(b == b')=false:=by simp [hbb]
  have HBB:=qh hbb;clear hbb;by_cases hle:y.natAbs≤x.natAbs
  ·have HLE:=qh hle;obtain ⟨z,hz9⟩:∃ z,cmpN x.natAbs y.natAbs=z:=⟨_,rfl⟩;have hzI:0≤z:=by rw [← hz9];unfold cmpN;split;omega;split <;> omega
   have HZ9:=qh hz9;clear hz9 hle;go_wp2_with fail;refine (ref_Cmp w1 A A' n c n' c' x.natAbs y.natAbs HX1.o HY1.o (Nat.le_trans HBX.o (by omega)) (Nat.le_trans HBY.o (by omega))).mono ?_;rw [HZ9.o];rintro e v1 ⟨rfl,hbv⟩;have L0:=K0.o.below hbv K0.o.lt;have L1:=K1.o.below hbv K1.o.lt;have L2:=K2.o.below hbv K2.o.lt;have HXv:Hid (D4 v1 A n c x.natAbs):=HX1.o.below hbv ql;have HYv:Hid (D4 v1 A' n' c' y.natAbs):=HY1.o.below hbv ql;have HBv:Hid (Below w.heap.size w v1):=HB.o.trans (hbv.mono HB.o.size);have hzv:=hbv.size;clear K0 K1 K2 k00 k01 k10 k11 hbv HX1 HY1 HB;have K0:=qh L0;have K1:=qh L1;have K2:=qh L2;clear L0 L1 L2;dsimp only;go_wp2_with fail;have HKK:Hid (∀ w',Hold v1 (w.heap.size+1+1) 171 2 w'→w'.cell? ⟨w.heap.size,0,none⟩=some (.bool b)∧w'.cell? ⟨w.heap.size,1,none⟩=some (.slice A n c)∧w'.cell? ⟨w.heap.size+1,1,none⟩=some (.slice A' n' c')∧w'.cell? ⟨w.heap.size+1+1,0,none⟩=some (cellAt w' ⟨w.heap.size+1+1,0,none⟩)∧w'.cell? ⟨w.heap.size+1+1,1,none⟩=some (cellAt w' ⟨w.heap.size+1+1,1,none⟩)∧w'.frozen? ⟨w.heap.size+1+1,0,none⟩=false∧w'.frozen? ⟨w.heap.size+1+1,1,none⟩=false∧Hold v1 (w.heap.size+1+1) 171 2 w'):=fun w' h=>⟨(h.blk K0.o (by omega)).cell 0,(h.blk K0.o (by omega)).cell 1,(h.blk K1.o (by omega)).cell 1,h.cell 0 (by omega),h.cell 1 (by omega),h.frozen 0,h.frozen 1,h⟩;have HSt:Hid (Hold v1 (w.heap.size+1+1) 171 2 v1):=Hold.start K2.o (by simp [No32])
   go_region_held3 (fun w'=>w'.cell? ⟨w.heap.size,0,none⟩=some (.bool b)∧w'.cell? ⟨w.heap.size,1,none⟩=some (.slice A n c)∧w'.cell? ⟨w.heap.size+1,1,none⟩=some (.slice A' n' c')∧w'.cell? ⟨w.heap.size+1+1,0,none⟩=some (cellAt w' ⟨w.heap.size+1+1,0,none⟩)∧w'.cell? ⟨w.heap.size+1+1,1,none⟩=some (cellAt w' ⟨w.heap.size+1+1,1,none⟩)∧w'.frozen? ⟨w.heap.size+1+1,0,none⟩=false∧w'.frozen? ⟨w.heap.size+1+1,1,none⟩=false∧Hold v1 (w.heap.size+1+1) 171 2 w')
    (first|exact HKK.o _ HSt.o.drew|(go_split_ands;first|exact HKK.o _ (Hold.call ‹Hold v1 (w.heap.size+1+1) 171 2 _› hb2)|exact HKK.o _ (Hold.call ‹Hold v1 (w.heap.size+1+1) 171 2 _› hb3)|exact HKK.o _ ((‹Hold v1 (w.heap.size+1+1) 171 2 _›.set 0 _ (by simp)).set 1 _ (by simp))))
    (first|((with_reducible refine (ref_Sub _ A A' n c n' c' x.natAbs y.natAbs ?_ ?_ HBX.o HBY.o HLE.o).mono ?_);(refine D4.hold (W:=v1) (g:=w.heap.size+1+1) (t:=171) (n:=2) ?_ K2.o (noI_z _ _ _ _) HXv.o;(go_split_ands;assumption));(refine D4.hold (W:=v1) (g:=w.heap.size+1+1) (t:=171) (n:=2) ?_ K2.o (noI_z _ _ _ _) HYv.o;(go_split_ands;assumption));rintro e w2 ⟨⟨A2,n2,c2,rfl,hr2⟩,hb2⟩)|((with_reducible refine (ref_ZOf _ _ A2 n2 c2 _ hr2).mono ?_);rintro e w3 ⟨⟨b3,A3,n3,c3,rfl,hr3⟩,hb3⟩))
   rw [zadd4_left HX.o.sign HY.o.sign HBB.o HLE.o] at hr3;have hh:=((HSt.o.drew.call hb2).call hb3);have hf:=hh.fill2 (.bool b3) (.slice A3 n3 c3);have hg:=((hh.set 0 (.bool b3) (by simp)).set 1 (.slice A3 n3 c3) (by simp));have hB3:Blk w3 (w.heap.size+1+1) 171 [.bool false,.slice none 0 0]:=((K2.o.below ((Below.refl v1.heap.size v1).drew) K2.o.lt).below hb2 K2.o.lt).below hb3 (((K2.o.below ((Below.refl v1.heap.size v1).drew) K2.o.lt).below hb2 K2.o.lt).lt);have hs:=hr3.d4.put2 hB3 (noI_z _ _ _ _) (.bool b3) (.slice A3 n3 c3);obtain ⟨r0,r1⟩:=hf.c2;generalize ((w3.setCell ⟨w.heap.size+1+1,0,none⟩ (.bool b3)).setCell ⟨w.heap.size+1+1,1,none⟩ (.slice A3 n3 c3))=wf at *
   go_wp2
   refine bodyPost_ret (v:=.agg #[.bool b3,.slice A3 n3 c3]) (by simp [results,Tryz.results173,go_sem,r0,r1];try rfl) rfl ?_;exact ⟨⟨_,_,_,_,rfl,hr3.sign,hs⟩,HBv.o.trans (hg.below (by omega))⟩
  ·have HLE:=qh (Nat.lt_of_not_le hle);obtain ⟨z,hz9⟩:∃ z,cmpN x.natAbs y.natAbs=z:=⟨_,rfl⟩;have hzI:¬ 0≤z:=by rw [← hz9];unfold cmpN;split;omega;split <;> omega
   have HZ9:=qh hz9;clear hz9 hle;go_wp2_with fail;refine (ref_Cmp w1 A A' n c n' c' x.natAbs y.natAbs HX1.o HY1.o (Nat.le_trans HBX.o (by omega)) (Nat.le_trans HBY.o (by omega))).mono ?_;rw [HZ9.o];rintro e v1 ⟨rfl,hbv⟩;have L0:=K0.o.below hbv K0.o.lt;have L1:=K1.o.below hbv K1.o.lt;have L2:=K2.o.below hbv K2.o.lt;have HXv:Hid (D4 v1 A n c x.natAbs):=HX1.o.below hbv ql;have HYv:Hid (D4 v1 A' n' c' y.natAbs):=HY1.o.below hbv ql;have HBv:Hid (Below w.heap.size w v1):=HB.o.trans (hbv.mono HB.o.size);have hzv:=hbv.size;clear K0 K1 K2 k00 k01 k10 k11 hbv HX1 HY1 HB;have K0:=qh L0;have K1:=qh L1;have K2:=qh L2;clear L0 L1 L2;dsimp only;go_wp2_with fail;have HKK:Hid (∀ w',Hold v1 (w.heap.size+1+1) 171 2 w'→w'.cell? ⟨w.heap.size,1,none⟩=some (.slice A n c)∧w'.cell? ⟨w.heap.size+1,0,none⟩=some (.bool b')∧w'.cell? ⟨w.heap.size+1,1,none⟩=some (.slice A' n' c')∧w'.cell? ⟨w.heap.size+1+1,0,none⟩=some (cellAt w' ⟨w.heap.size+1+1,0,none⟩)∧w'.cell? ⟨w.heap.size+1+1,1,none⟩=some (cellAt w' ⟨w.heap.size+1+1,1,none⟩)∧w'.frozen? ⟨w.heap.size+1+1,0,none⟩=false∧w'.frozen? ⟨w.heap.size+1+1,1,none⟩=false∧Hold v1 (w.heap.size+1+1) 171 2 w'):=fun w' h=>⟨(h.blk K0.o (by omega)).cell 1,(h.blk K1.o (by omega)).cell 0,(h.blk K1.o (by omega)).cell 1,h.cell 0 (by omega),h.cell 1 (by omega),h.frozen 0,h.frozen 1,h⟩;have HSt:Hid (Hold v1 (w.heap.size+1+1) 171 2 v1):=Hold.start K2.o (by simp [No32])
   go_region_held3 (fun w'=>w'.cell? ⟨w.heap.size,1,none⟩=some (.slice A n c)∧w'.cell? ⟨w.heap.size+1,0,none⟩=some (.bool b')∧w'.cell? ⟨w.heap.size+1,1,none⟩=some (.slice A' n' c')∧w'.cell? ⟨w.heap.size+1+1,0,none⟩=some (cellAt w' ⟨w.heap.size+1+1,0,none⟩)∧w'.cell? ⟨w.heap.size+1+1,1,none⟩=some (cellAt w' ⟨w.heap.size+1+1,1,none⟩)∧w'.frozen? ⟨w.heap.size+1+1,0,none⟩=false∧w'.frozen? ⟨w.heap.size+1+1,1,none⟩=false∧Hold v1 (w.heap.size+1+1) 171 2 w')
    (first|exact HKK.o _ HSt.o.drew|(go_split_ands;first|exact HKK.o _ (Hold.call ‹Hold v1 (w.heap.size+1+1) 171 2 _› hb2)|exact HKK.o _ (Hold.call ‹Hold v1 (w.heap.size+1+1) 171 2 _› hb3)|exact HKK.o _ ((‹Hold v1 (w.heap.size+1+1) 171 2 _›.set 0 _ (by simp)).set 1 _ (by simp))))
    (first|((with_reducible refine (ref_Sub _ A' A n' c' n c y.natAbs x.natAbs ?_ ?_ HBY.o HBX.o (Nat.le_of_lt HLE.o)).mono ?_);(refine D4.hold (W:=v1) (g:=w.heap.size+1+1) (t:=171) (n:=2) ?_ K2.o (noI_z _ _ _ _) HYv.o;(go_split_ands;assumption));(refine D4.hold (W:=v1) (g:=w.heap.size+1+1) (t:=171) (n:=2) ?_ K2.o (noI_z _ _ _ _) HXv.o;(go_split_ands;assumption));rintro e w2 ⟨⟨A2,n2,c2,rfl,hr2⟩,hb2⟩)|((with_reducible refine (ref_ZOf _ _ A2 n2 c2 _ hr2).mono ?_);rintro e w3 ⟨⟨b3,A3,n3,c3,rfl,hr3⟩,hb3⟩))
   rw [zadd4_right HX.o.sign HY.o.sign HBB.o HLE.o] at hr3;have hh:=((HSt.o.drew.call hb2).call hb3);have hf:=hh.fill2 (.bool b3) (.slice A3 n3 c3);have hg:=((hh.set 0 (.bool b3) (by simp)).set 1 (.slice A3 n3 c3) (by simp));have hB3:Blk w3 (w.heap.size+1+1) 171 [.bool false,.slice none 0 0]:=((K2.o.below ((Below.refl v1.heap.size v1).drew) K2.o.lt).below hb2 K2.o.lt).below hb3 (((K2.o.below ((Below.refl v1.heap.size v1).drew) K2.o.lt).below hb2 K2.o.lt).lt);have hs:=hr3.d4.put2 hB3 (noI_z _ _ _ _) (.bool b3) (.slice A3 n3 c3);obtain ⟨r0,r1⟩:=hf.c2;generalize ((w3.setCell ⟨w.heap.size+1+1,0,none⟩ (.bool b3)).setCell ⟨w.heap.size+1+1,1,none⟩ (.slice A3 n3 c3))=wf at *
   go_wp2
   refine bodyPost_ret (v:=.agg #[.bool b3,.slice A3 n3 c3]) (by simp [results,Tryz.results173,go_sem,r0,r1];try rfl) rfl ?_;exact ⟨⟨_,_,_,_,rfl,hr3.sign,hs⟩,HBv.o.trans (hg.below (by omega))⟩
theorem ref_ZInt (w:World) (n:Nat) (hn:n<9223372036854775808) :
  Calls Tryz.prog 168 #[.int .i64 (n:Int)] w fun e w'=>RetZ4 e w' (n:Int)∧Below w.heap.size w w':=by
 have hI:¬ (n:Int)<0:=by omega
 have htu:(n:Int) % 18446744073709551616=(n:Int):=by omega
 go_enter Tryz.func168,Tryz.ntmps168;go_wp2_with fail;refine calls_letter (fun w1=>Blk w1 w.heap.size 171 [.bool false,.slice none 0 0]∧Below w.heap.size w w1) ⟨(Blk.made _ 171 _ _ _ (by simp) rfl),(Below.refl _ _).alloc ql _⟩ ?_;rintro w1 ⟨b1,hb⟩;have HB:=qh hb;have H1:=qh b1;clear hb b1;refine (ref_Small w1 n (by omega)).mono ?_;rintro e w2 ⟨⟨A3,n3,c3,rfl,hr3⟩,hb2⟩;have H2:=qh (H1.o.below hb2 H1.o.lt);obtain ⟨k0,k1⟩:=H2.o.c2;have f0:=H2.o.frozen 0;have f1:=H2.o.frozen 1;have HR:=qh hr3;have HB2:Hid (Below w.heap.size w w2):=HB.o.trans (hb2.mono HB.o.size);clear hr3 hb2;dsimp only;go_wp2_with fail;have hf:=(H2.o.put 0 (.bool false)).put 1 (.slice A3 n3 c3);simp only [M0,M1] at hf;have hd:=HR.o.put2 H2.o (noI_z _ _ _ _) (.bool false) (.slice A3 n3 c3);have hb3:Below w.heap.size w ((w2.setCell ⟨w.heap.size,0,none⟩ (.bool false)).setCell ⟨w.heap.size,1,none⟩ (.slice A3 n3 c3)):=(HB2.o.setCell (by simp) _).setCell (by simp) _;obtain ⟨r0,r1⟩:=hf.c2;generalize ((w2.setCell ⟨w.heap.size,0,none⟩ (.bool false)).setCell ⟨w.heap.size,1,none⟩ (.slice A3 n3 c3))=wf at *
 refine bodyPost_ret (v:=.agg #[.bool false,.slice A3 n3 c3]) (by simp [results,Tryz.results168,go_sem,r0,r1];try rfl) rfl ?_;exact ⟨⟨_,_,_,_,rfl,by simp,hd⟩,hb3⟩
structure RQ4 (w:World) (b:Bool) (A:Option Addr) (n c:Nat) (B:Option Addr) (m d:Nat) (p:Int) (q:Nat):Prop where
 up:RZ4 w b A n c p
 down:D4 w B m d q
theorem RQ4.below {w w':World} {b:Bool} {A:Option Addr} {n c N:Nat} {B:Option Addr} {m d:Nat} {p:Int} {q:Nat} (h:RQ4 w b A n c B m d p q) (hb:Below N w w') (hB:w.heap.size≤N):RQ4 w' b A n c B m d p q:=⟨h.up.below hb hB,h.down.below hb hB⟩
def RetQ4 (e:Ending) (w':World) (p:Int) (q:Nat):Prop:=∃ b A n c B m d,e=.returned (.agg #[.bool b,.slice A n c,.slice B m d])∧RQ4 w' b A n c B m d p q
theorem D4.put3 {w:World} {A:Option Addr} {m c k g:Nat} {t:TypeId} {l:List Value} (hs:D4 w A m c k) (hB:Blk w g t l) (hl:NoI l) (u v x:Value):D4 (((w.setCell ⟨g,0,none⟩ u).setCell ⟨g,1,none⟩ v).setCell ⟨g,2,none⟩ x) A m c k :=
 hs.apart hB hl fun b _ hne=>by rw [Below.heap_setCell _ _ _ _ hne,Below.heap_setCell _ _ _ _ hne,Below.heap_setCell _ _ _ _ hne]
theorem noI_q (b:Bool) (A:Option Addr) (n c:Nat) (B:Option Addr) (m d:Nat):NoI [.bool b,.slice A n c,.slice B m d]:=by
 intro x hx z;rcases List.mem_cons.1 hx with rfl|hx
 ·simp
 ·rcases List.mem_cons.1 hx with rfl|hx
  ·simp
  ·obtain rfl:=List.mem_singleton.1 hx;simp
theorem ref_QInt (w:World) (n:Nat) (hn:n<9223372036854775808) :
  Calls Tryz.prog 108 #[.int .i64 (n:Int)] w fun e w'=>RetQ4 e w' (n:Int) 1∧Below w.heap.size w w':=by
 have HN:=qh hn;go_enter Tryz.func108,Tryz.ntmps108;go_wp2_with fail;refine calls_letter (fun w1=>Blk w1 w.heap.size 173 [.bool false,.slice none 0 0,.slice none 0 0]∧Below w.heap.size w w1) ⟨(Blk.made _ 173 _ _ _ (by simp) rfl),(Below.refl _ _).alloc ql _⟩ ?_;rintro w1 ⟨b1,hb⟩;have HB:=qh hb;have H1:=qh b1;clear hb b1;refine (ref_ZInt w1 n HN.o).mono ?_;rintro e w2 ⟨⟨b2,A2,n2,c2,rfl,hr2⟩,hb2⟩;have HR2:=qh hr2;have HB2:=qh hb2;clear hr2 hb2;dsimp only;go_wp2_with fail;refine (ref_Small w2 1 (by decide)).mono ?_;rintro e w3 ⟨⟨A3,n3,c3,rfl,hr3⟩,hb3⟩;have HR3:=qh hr3;have HR4:Hid (RZ4 w3 b2 A2 n2 c2 (n:Int)):=HR2.o.below hb3 ql;have HB3:Hid (Below w1.heap.size w1 w3):=HB2.o.trans (hb3.mono HB2.o.size);have H3:Hid (Blk w3 w.heap.size 173 [.bool false,.slice none 0 0,.slice none 0 0]):=H1.o.below HB3.o H1.o.lt;obtain ⟨k0,k1,k2⟩:=H3.o.c3;have f0:=H3.o.frozen 0;have f1:=H3.o.frozen 1;have f2:=H3.o.frozen 2;have HB4:Hid (Below w.heap.size w w3):=HB.o.trans (HB3.o.mono HB.o.size);clear hr3 hb3;dsimp only;go_wp2_with fail;have hf:=((H3.o.put 0 (.bool b2)).put 1 (.slice A2 n2 c2)).put 2 (.slice A3 n3 c3);simp only [M0,M1] at hf;have hd:=HR4.o.d4.put3 H3.o (noI_q _ _ _ _ _ _ _) (.bool b2) (.slice A2 n2 c2) (.slice A3 n3 c3);have hd2:=HR3.o.put3 H3.o (noI_q _ _ _ _ _ _ _) (.bool b2) (.slice A2 n2 c2) (.slice A3 n3 c3);have hb5:Below w.heap.size w (((w3.setCell ⟨w.heap.size,0,none⟩ (.bool b2)).setCell ⟨w.heap.size,1,none⟩ (.slice A2 n2 c2)).setCell ⟨w.heap.size,2,none⟩ (.slice A3 n3 c3)):=((HB4.o.setCell (by simp) _).setCell (by simp) _).setCell (by simp) _;obtain ⟨r0,r1,r2⟩:=hf.c3;generalize (((w3.setCell ⟨w.heap.size,0,none⟩ (.bool b2)).setCell ⟨w.heap.size,1,none⟩ (.slice A2 n2 c2)).setCell ⟨w.heap.size,2,none⟩ (.slice A3 n3 c3))=wf at *
 refine bodyPost_ret (v:=.agg #[.bool b2,.slice A2 n2 c2,.slice A3 n3 c3]) (by simp [results,Tryz.results108,go_sem,r0,r1,r2];try rfl) rfl ?_;exact ⟨⟨_,_,_,_,_,_,_,rfl,⟨⟨HR4.o.sign,hd⟩,hd2⟩⟩,hb5⟩
end Go.Proofs.YtdgleeglndcjhaaGreatDoor
