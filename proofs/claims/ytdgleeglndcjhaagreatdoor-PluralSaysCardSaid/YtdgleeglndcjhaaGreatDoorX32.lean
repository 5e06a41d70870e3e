import Derived.Test.YtdgleeglndcjhaaGreatDoorX31
import Derived.Lib.ItoaLen
import Derived.Test.YtdgleeglndcjhaaGreatDoorX03
set_option linter.unusedSimpArgs false
set_option linter.unusedVariables false
set_option maxHeartbeats 8000000
set_option maxRecDepth 100000
namespace Go.Proofs.YtdgleeglndcjhaaGreatDoor
open Go.RowKit
theorem ref_ZIntN (w:World) (z y:Int) (k:Nat) (hz:z+1=y) (hy:-y=(k:Int)) (hk:k<9223372036854775808) :
  Calls Tryz.prog 168 #[.int .i64 z] w fun e w'=>RetZ4 e w' z∧Below w.heap.size w w':=by
 have hI:z<0:=by omega
 have htu:(k:Int) % 18446744073709551616=(k:Int):=by omega
 have hy0:-9223372036854775808<y:=by omega
 have hy1:y≤0:=by omega
 have hz0:-9223372036854775808≤z:=by omega
 have HZ:Hid (z.natAbs=k+1):=by show _=_;omega
 go_enter Tryz.func168,Tryz.ntmps168;go_wp2_with fail;refine calls_letter (fun w1=>Blk w1 w.heap.size 171 [.bool false,.slice none 0 0]∧Below w.heap.size w w1) ⟨(Blk.made _ 171 _ _ _ (by simp) rfl),(Below.refl _ _).alloc ql _⟩ ?_;rintro w1 ⟨b1,hb⟩;have HB:=qh hb;have H1:=qh b1;clear hb b1;refine (ref_Small w1 k (by omega)).mono ?_;rintro e w2 ⟨⟨A2,n2,c2,rfl,hr2⟩,hb2⟩;have HR2:=qh hr2;have HB2:=qh hb2;clear hr2 hb2;dsimp only;go_wp2_with fail;refine (ref_Small w2 1 (by decide)).mono ?_;rintro e w3 ⟨⟨A3,n3,c3,rfl,hr3⟩,hb3⟩;have HR3:=qh hr3;have HR2':=qh (HR2.o.bel hb3);have HB3:=qt HB2 hb3;clear hr3 hb3;dsimp only;go_wp2_with fail;refine (ref_Add w3 A2 A3 n2 c2 n3 c3 k 1 HR2'.o HR3.o (le_of_le (d4_len (n:=5) (by omega))) (le_of_le (d4_len (n:=5) (by omega)))).mono ?_;rintro e w4 ⟨⟨A4,n4,c4,rfl,hr4⟩,hb4⟩;have hb14:=HB3.o.trans (hb4.mono HB3.o.size);have H2:=qh (H1.o.below hb14 H1.o.lt);obtain ⟨k0,k1⟩:=H2.o.c2;have f0:=H2.o.frozen 0;have f1:=H2.o.frozen 1;have HR4:=qh hr4;have HB4:=qt HB hb14;clear hr4 hb4 hb14;dsimp only;go_wp2_with fail;have hf:=(H2.o.put 0 (.bool true)).put 1 (.slice A4 n4 c4);simp only [M0,M1] at hf;have hd:=HR4.o.put2 H2.o (noI_z _ _ _ _) (.bool true) (.slice A4 n4 c4);have hb3:=below_set (below_set HB4.o w.heap.size 0 ql (.bool true)) w.heap.size 1 ql (.slice A4 n4 c4);obtain ⟨r0,r1⟩:=hf.c2;generalize ((w4.setCell ⟨w.heap.size,0,none⟩ (.bool true)).setCell ⟨w.heap.size,1,none⟩ (.slice A4 n4 c4))=wf at *
 refine bodyPost_ret (v:=.agg #[.bool true,.slice A4 n4 c4]) (by simp [results,Tryz.results168,go_sem,r0,r1];try rfl) rfl ?_;exact ⟨⟨_,_,_,_,rfl,by simp [hI],by rw [HZ.o];exact hd⟩,hb3⟩
theorem ref_ZIntZ (w:World) (z:Int) (h0:-9223372036854775808≤z) (h1:z≤9223372036854775807) :
  Calls Tryz.prog 168 #[.int .i64 z] w fun e w'=>RetZ4 e w' z∧Below w.heap.size w w':=by
 by_cases h:z<0
 ·exact ref_ZIntN w z (z+1) (-(z+1)).toNat rfl (by omega) (by omega)
 ·obtain ⟨n,rfl⟩:=Int.eq_ofNat_of_zero_le (show 0≤z by omega);exact ref_ZInt w n (by omega)
theorem ref_num (w:World) (z:Int) (h0:-9223372036854775808≤z) (h1:z≤9223372036854775807) :
  Calls Tryz.prog 107 #[.int .i64 z] w fun e w'=>e=.returned (.string ⟨(Lib.itoa z).toArray⟩)∧Below w.heap.size w w':=by
 have H0:=qh h0;have H1:=qh h1;clear h0 h1;go_enter Tryz.func107,Tryz.ntmps107;go_wp2_with fail;refine (ref_ZIntZ w z H0.o H1.o).mono ?_;rintro e w1 ⟨⟨b,A,n,c,rfl,hr⟩,hb⟩;have HR:=qh hr;have HB:=qh hb;have hlt:z.natAbs<18446744073709551616:=by have:=H0.o;have:=H1.o;omega
 clear hr hb;dsimp only;go_wp2_with fail;refine (ref_ZText w1 b A n c z HR.o (le_of_le (d4_len (n:=5) (by omega))) ?_).mono ?_
 ·have:=Lib.itoa_length_le z H0.o (by have:=H1.o;omega);rw [itoa_text,List.length_append] at this;omega
 rintro e w2 ⟨rfl,hb2⟩;have HB2:=qt HB hb2;clear hb2;dsimp only;go_wp2_with fail;go_ret
 exact ⟨rfl,HB2.o⟩
theorem val_len4 {l:List Nat} (h:Wd l):(d4 (val l)).length≤3 * l.length:=by
 refine d4_len (Nat.lt_of_lt_of_le (val_lt l h) ?_);rw [Nat.pow_mul];exact Nat.pow_le_pow_left (by decide) _
theorem val_drop (l:List Nat) (i:Nat):val (l.drop i)=l.getD i 0+4294967296 * val (l.drop (i+1)):=by
 by_cases h:i<l.length
 ·rw [List.drop_eq_getElem_cons h,val,List.getD_eq_getElem?_getD,List.getElem?_eq_getElem h];rfl
 ·rw [List.drop_eq_nil_of_le (by omega),List.drop_eq_nil_of_le (by omega),List.getD_eq_getElem?_getD,List.getElem?_eq_none (by omega)];rfl
theorem wd_drop {l:List Nat} (h:Wd l) (i:Nat):Wd (l.drop i):=fun x hx=>h x (List.mem_of_mem_drop hx)
theorem d4_nil (w:World):D4 w none 0 0 0:=by
 refine ⟨?_,fun _=>rfl⟩;rw [d4_zero];exact SlC.nil _ _ _ _
theorem ref_Words (w:World) (A:Option Addr) (n c:Nat) (l:List Nat) (h:RL w (.slice A n c) l) (hl:l.length≤1000) :
  Calls Tryz.prog 42 #[.slice A n c] w fun e w'=>RetD4 e w' (val l)∧Below w.heap.size w w':=by
 obtain ⟨A',c',e0,hc,hcell⟩:=h.form;obtain ⟨rfl,rfl,rfl⟩:=Value.slice.inj e0;have HW:=qh h.2;have HC:Hid (∀ k,k<l.length→∃ b o,A=some ⟨b,o,none⟩∧w.cell? ⟨b,o+k,none⟩=some (.int .u32 (l.getD k 0:Nat))∧b<w.heap.size∧l.getD k 0<4294967296):=hcell;have hlI:(l.length:Int)≤1000:=by omega
 clear h e0 hcell;go_enter Tryz.func42,Tryz.ntmps42;go_wp2_with fail;refine (ref_Small w 4294967296 (by decide)).mono ?_;rintro e w1 ⟨⟨A1,n1,c1,rfl,hd1⟩,hb1⟩;have HD1:=qh hd1;have HB1:=qh hb1;clear hd1 hb1;dsimp only;go_wp2_with fail;go_loopw [3,5] (fun v i wr=>∃ (j:Nat) (A2:Option Addr) (n2 c2:Nat),j≤l.length∧i=.int .i64 ((j:Int) - 1)∧v=.slice A2 n2 c2∧D4 wr A2 n2 c2 (val (l.drop j))∧Below w1.heap.size w1 wr) (fun _ i _=>(intOf i+1).toNat)
 case atStart=>exact ⟨l.length,none,0,0,ql,by go_num,rfl,by rw [List.drop_length];exact d4_nil _,Below.refl _ _⟩
 case round =>
  obtain ⟨j,A2,n2,c2,hj,rfl,rfl,hd2,hb2⟩:=hrel;obtain ⟨wo,rfl⟩:∃ wo:World,wo=wr:=⟨_,rfl⟩;have HD2:=qh hd2;have HB2:=qh hb2;clear hd2 hb2;cases j with
  | zero =>
   have hI:¬ (0:Int)≤((0:Nat):Int) - 1:=by omega
   have HF:Hid (D4 wo A2 n2 c2 (val l)):=by have:=HD2.o;rw [List.drop_zero] at this;exact this
   clear HD2;go_wp2_with fail;go_ret
   exact ⟨⟨_,_,_,rfl,HF.o⟩,HB1.o.trans (HB2.o.mono HB1.o.size)⟩
  | succ j =>
   have e1:((j+1:Nat):Int) - 1=(j:Int):=by omega
   rw [e1];obtain ⟨b,o,rfl,hx,hlt,hx4⟩:=HC.o j (by omega);obtain ⟨x,hxe⟩:∃ x,l.getD j 0=x:=⟨_,rfl⟩;rw [hxe] at hx hx4;have HXE:=qh hxe;have HBW:=qh (HB1.o.trans (HB2.o.mono HB1.o.size));have HK:Hid (∀ w',Below wo.heap.size wo w'→w'.cell? ⟨b,o+j,none⟩=some (.int .u32 (x:Int))∧Below wo.heap.size wo w'):=fun w' h=>⟨((HBW.o.trans (h.mono HBW.o.size)).cell (p:=⟨b,o+j,none⟩) hlt).trans hx,h⟩;have hj0:(0:Int)≤(j:Int):=by omega
   have hjl:(j:Int)<(l.length:Int):=by omega
   have hxm:IntKind.u64.wrap (x:Int)=(x:Int):=IntWalk.u64_in _ ⟨by omega,by omega⟩;have HD1':=qh (HD1.o.bel HB2.o)
   have HL1:Hid ((d4 (val (l.drop (j+1)))).length≤3000):=by
    have:=val_len4 (wd_drop HW.o (j+1));rw [List.length_drop] at this;show _≤_;omega
   have HSUM:Hid (val (l.drop (j+1)) * 4294967296+x=val (l.drop j)):=by
    show _=_;rw [val_drop l j,HXE.o];omega
   clear hx hxe;go_upto_region 6 with fail
   go_region_held3 (fun w'=>w'.cell? ⟨b,o+j,none⟩=some (.int .u32 (x:Int))∧Below wo.heap.size wo w')
    (first|exact HK.o _ (Below.refl _ _).drew|(go_split_ands;first|exact HK.o _ (Below.trans ‹Below wo.heap.size wo _› (hb3.mono (Below.size ‹Below wo.heap.size wo _›)))|exact HK.o _ (Below.trans ‹Below wo.heap.size wo _› (hb4.mono (Below.size ‹Below wo.heap.size wo _›)))|exact HK.o _ (Below.trans ‹Below wo.heap.size wo _› (hb5.mono (Below.size ‹Below wo.heap.size wo _›)))))
    (first|((with_reducible refine (ref_Mul _ A2 A1 n2 c2 n1 c1 (val (l.drop (j+1))) 4294967296 (HD2.o.below ?_ ql) (HD1'.o.below ?_ ql) (le_of_le HL1.o) (le_of_le (d4_len (n:=5) (by decide)))).mono ?_);(go_split_ands;assumption);(go_split_ands;assumption);rintro e w3 ⟨⟨A3,n3,c3,rfl,hr3⟩,hb3⟩)|((with_reducible refine (ref_Small _ x (by omega)).mono ?_);rintro e w4 ⟨⟨A4,n4,c4,rfl,hr4⟩,hb4⟩)|((with_reducible refine (ref_Add _ A3 A4 n3 c3 n4 c4 _ x (hr3.bel hb4) hr4 (le_of_le (le_of_le (d4_mul_len _ _) (Nat.add_le_add HL1.o (d4_len (n:=5) (by decide))))) (le_of_le (d4_len (n:=5) (by omega)))).mono ?_);rw [HSUM.o];rintro e w5 ⟨⟨A5,n5,c5,rfl,hr5⟩,hb5⟩))
   have hbf:Below wo.heap.size wo w5:=(by go_split_ands;assumption);have HR5:=qh hr5;have HBF:=qt HB2 hbf;go_wp2_with fail;go_roundw
   case rel=>exact ⟨j,_,_,_,by omega,by go_num,rfl,HR5.o,HBF.o⟩
   case measure=>simp [intOf];try omega
theorem ba_extract (l:Bs) (m n:Nat):(⟨l.toArray⟩:ByteArray).extract m n=⟨((l.drop m).take (n - m)).toArray⟩:=by
 apply ByteArray.ext
 simp [ByteArray.data_extract,List.extract_eq_take_drop]
theorem ba_tail (l:Bs) (m:Nat):(⟨l.toArray⟩:ByteArray).extract m l.length=⟨(l.drop m).toArray⟩:=by
 rw [ba_extract,List.take_of_length_le (by simp)]
def padL (t:Bs) (S:Nat):Bs:=List.replicate (S+1 - t.length) 48 ++ t
theorem padL_len (t:Bs) (S:Nat):S<(padL t S).length∧t.length≤(padL t S).length∧(padL t S).length≤t.length+S+1:=by
 unfold padL;rw [List.length_append,List.length_replicate];omega
theorem ref_plain (w:World) (b:Bool) (A:Option Addr) (n c k S:Nat) (h:D4 w A n c k) (hl:(d4 k).length≤100000) (hS:S≤100000) (htl:(Lib.decDigits k).length≤1000000) :
  Calls Tryz.prog 211 #[.agg #[.bool b,.slice A n c,.int .i64 (S:Int)]] w fun e w'=>e=.returned (.string ⟨(padL (Lib.decDigits k) S).toArray⟩)∧Below w.heap.size w w':=by
 have HX:=qh h;have L1:=qh hl;obtain ⟨T,hT⟩:∃ T,Lib.decDigits k=T:=⟨_,rfl⟩;rw [hT] at htl ⊢;have HT:=qh hT;clear h hl hT;go_enter Tryz.func211,Tryz.ntmps211;go_upto_region 1 with fail;refine wp_letter (fun w1=>Blk w1 w.heap.size 68 [.bool b,.slice A n c,.int .i64 (S:Int)]∧Below w.heap.size w w1) ⟨Blk.made _ 68 _ _ _ (by simp) rfl,(Below.refl _ _).alloc ql _⟩ ?_;rintro w1 ⟨b0,hb⟩;have K0:=qh b0;have HB:=qh hb;obtain ⟨-,k1⟩:=b0.c2;have hz:=b0.lt;clear b0 hb;go_wp2_with fail;refine (ref_Text w1 A n c k (HX.o.bel HB.o) L1.o).mono ?_;rw [HT.o];rintro e w2 ⟨rfl,hb2⟩;have HB2:=qh hb2;clear hb2 k1;dsimp only;go_wp2_with fail;go_loopw [3] (fun s wr=>∃ (i:Nat) (t:Bs),s=.string ⟨t.toArray⟩∧t=List.replicate i 48 ++ T∧(i=0∨T.length+i≤S+1)∧Below w1.heap.size w1 wr) (fun s _=>S+1 - lenStr s)
 case atStart=>exact ⟨0,T,rfl,rfl,.inl rfl,HB2.o⟩
 case round =>
  obtain ⟨i,t,rfl,ht,hi,hb3⟩:=hrel;have HTI:=qh ht;have htlen:t.length=i+T.length:=by rw [ht];simp
  have HB3:=qh hb3;obtain ⟨-,-,k2⟩:=(K0.o.below hb3 (by omega)).c3;have htl2:t.length≤2000000:=by omega
  clear ht hb3;by_cases hgo:t.length≤S
  ·have hI:(t.length:Int)≤(S:Int):=by omega
   have hst:(⟨#[48]⟩:ByteArray) ++ ⟨t.toArray⟩=⟨(List.replicate (i+1) 48 ++ T).toArray⟩:=by
    rw [HTI.o];apply ByteArray.ext;simp [List.replicate_succ]
   have HST:=qh hst;have HLE:=qh htlen;clear hst htlen;go_wp2_with fail;go_roundw
   case rel=>exact ⟨i+1,_,by rw [HST.o],rfl,by right;have:=HLE.o;omega,HB3.o⟩
   case measure=>simp [lenStr,ByteArray.size];omega
  ·have hI:¬ (t.length:Int)≤(S:Int):=by omega
   have hfin:t=padL T S:=by
    rw [HTI.o];unfold padL
    congr 2
    omega
   have HF:=qh hfin;clear hfin;go_wp2_with fail;go_ret
   exact ⟨by rw [HF.o];rfl,HB.o.trans (HB3.o.mono HB.o.size)⟩
theorem ref_DPart (w:World) (b:Bool) (A:Option Addr) (n c k S:Nat) (h:D4 w A n c k) (hl:(d4 k).length≤100000) (hS:S≤100000) (htl:(Lib.decDigits k).length≤1000000) :
  Calls Tryz.prog 166 #[.agg #[.bool b,.slice A n c,.int .i64 (S:Int)]] w fun e w'=>e=.returned (.string ⟨(padD S k).toArray⟩)∧Below w.heap.size w w':=by
 have HX:=qh h;have L1:=qh hl;have L2:=qh htl;obtain ⟨t,ht⟩:∃ t,padL (Lib.decDigits k) S=t:=⟨_,rfl⟩;have hp:=padL_len (Lib.decDigits k) S;rw [ht] at hp
 have hend:t.drop (t.length - S)=padD S k:=by
  have h1:k<10 ^ t.length:=by
   have h4:=Lib.decFrom_lt _ _ _ (decFrom_decDigits k);have h5:=Nat.pow_le_pow_right (n:=10) (by decide) hp.2.1;simp at h4;omega
  have h2:t=List.replicate (t.length - (Lib.decDigits k).length) 48 ++ Lib.decDigits k:=by
   conv=>lhs;rw [← ht]
   rw [← ht];unfold padL;simp
  have h3:=tail_digits (S:=S) (L:=t.length) (by omega) h1 (by omega);rw [← h2] at h3;exact h3
 have HT:=qh ht;have HE:=qh hend;have hs1:S≤t.length:=by omega
 have ht1:t.length≤2000000:=by omega
 obtain ⟨m,hm⟩:∃ m,t.length - S=m:=⟨_,rfl⟩;have hmI:(t.length:Int) - (S:Int)=(m:Int):=by omega
 have hm0:(0:Int)≤(m:Int):=by omega
 have hm1:(m:Int)≤(t.length:Int):=by omega
 have HM:=qh hm;clear h hl htl ht hp hend hm;go_enter Tryz.func166,Tryz.ntmps166;go_upto_region 1 with fail;refine wp_letter (fun w1=>Blk w1 w.heap.size 68 [.bool b,.slice A n c,.int .i64 (S:Int)]∧Below w.heap.size w w1) ⟨Blk.made _ 68 _ _ _ (by simp) rfl,(Below.refl _ _).alloc ql _⟩ ?_;rintro w1 ⟨b0,hb⟩;have K0:=qh b0;have HB:=qh hb;obtain ⟨k0,k1,k2⟩:=b0.c3;have hz:=b0.lt;clear b0 hb;go_wp2_with fail;refine (ref_plain w1 b A n c k S (HX.o.bel HB.o) L1.o hS L2.o).mono ?_;rw [HT.o];rintro e w2 ⟨rfl,hb2⟩;have HB2:=qt HB hb2;clear k0 k1 k2;obtain ⟨-,-,k2⟩:=(K0.o.below hb2 (by omega)).c3;clear hb2;dsimp only;go_wp2_with fail;go_ret
 exact ⟨by rw [← HE.o,HM.o,← ba_tail];rfl,HB2.o⟩
theorem ba_get (s:Bs) (k:Nat) (x:UInt8) (h:s[k]?=some x):∃ hk:k<(⟨s.toArray⟩:ByteArray).size,(⟨s.toArray⟩:ByteArray)[k]=x:=by
 obtain ⟨h1,h2⟩:=List.getElem?_eq_some_iff.1 h;exact ⟨by simpa [ByteArray.size] using h1,by simpa [ByteArray.getElem_eq_getElem_data] using h2⟩
theorem byte_of (n:Nat) (h:n<256):(UInt8.ofNat n).toNat=n:=u8 n h
theorem dig_at {s:Bs} (hd:∀ b ∈ s,isDig b=true) {k:Nat} (h:k<s.length):∃ (d:Nat) (hk:k<(⟨s.toArray⟩:ByteArray).size),((⟨s.toArray⟩:ByteArray)[k]).toNat=d∧s[k]=UInt8.ofNat d∧48≤d∧d≤57:=by
 obtain ⟨hk,e⟩:=ba_get s k s[k] (List.getElem?_eq_getElem h);have hx:=hd s[k] (List.getElem_mem h);unfold isDig at hx;have:=of_decide_eq_true hx;exact ⟨s[k].toNat,hk,by rw [e],by simp,this.1,this.2⟩
theorem take_more {s:Bs} {f j:Nat} (hf:f≤j) (h:j<s.length):(s.drop f).take (j+1 - f)=(s.drop f).take (j - f) ++ [s[j]]:=by
 rw [show j+1 - f=(j - f)+1 by omega,List.take_add_one,List.getElem?_drop,show f+(j - f)=j by omega,List.getElem?_eq_getElem h]
 rfl
theorem ref_Parse (w:World) (s:Bs) (hd:∀ b ∈ s,isDig b=true) (hne:s≠[]) (hl:s.length≤100000) :
  Calls Tryz.prog 165 #[.string ⟨s.toArray⟩] w fun e w'=>(∃ A n c,e=.returned (.tuple #[.slice A n c,.bool true])∧D4 w' A n c (dv s))∧Below w.heap.size w w':=by
 have hse:s.isEmpty=false:=by cases s with
  | nil=>exact absurd rfl hne
  | cons a b=>rfl
 obtain ⟨i3,hi3,hz0,hz1,hz2⟩:=info_parts Tryz_info3';have hmx:=maxLen_ge;have HD:=qh hd;have hlI:(s.length:Int)≤100000:=by omega
 clear hd hne;go_enter Tryz.func165,Tryz.ntmps165;go_wp2_with fail;go_loop [5] (fun i=>∃ k:Nat,k≤s.length∧i=.int .i64 (k:Int)) (fun i=>s.length - (intOf i).toNat)
 case atStart=>exact ⟨0,Nat.zero_le _,rfl⟩
 case round =>
  obtain ⟨k,hk,rfl⟩:=hrel;by_cases hlt:k<s.length
  ·have hI:(k:Int)<(s.length:Int):=by omega
   have hk0:(0:Int)≤(k:Int):=by omega
   obtain ⟨d,hkk,hdx,-,h48,h57⟩:=dig_at HD.o hlt;have h48I:¬ (d:Int)<48:=by omega
   have h57I:¬ 57<(d:Int):=by omega
   go_wp2_with fail;go_round
   case rel=>exact ⟨k+1,by omega,by go_num⟩
   case measure=>simp [intOf];omega
  ·have hI:¬ (k:Int)<(s.length:Int):=by omega
   go_wp2_with fail;go_loopw [4,6] (fun v e wr=>∃ (en:Int) (m:Nat) (acc:List Nat),e=.int .i64 en∧m=en.toNat∧-4≤en∧m≤s.length∧OwnN wr w.heap.size v acc∧W4 acc∧v4 acc=dv (s.drop m)∧(0<en→(s.drop m).length=4 * acc.length)∧acc.length≤s.length - m∧Below w.heap.size w wr) (fun _ e _=>(intOf e).toNat)
   case atStart=>exact ⟨s.length,s.length,[],by go_num,by omega,by omega,ql,World.ownsRow_nil _ _ _ _,(fun x hx=>by cases hx),by rw [List.drop_length];rfl,fun _=>by rw [List.drop_length];rfl,by simp,Below.refl _ _⟩
   case round =>
    obtain ⟨en,m,acc,rfl,hm,hen,hml,ho,hw4,hv,hlen,hal,hbb⟩:=hrel;obtain ⟨wo,rfl⟩:∃ wo:World,wo=wr:=⟨_,rfl⟩;have HO:=qh ho;have HW:=qh hw4;have HV:=qh hv;have HLEN:=qh hlen;have HBB:=qh hbb;have hsz:=hbb.size;clear ho hw4 hv hlen hbb;by_cases hpos:0<en
    case neg =>
     obtain rfl:m=0:=by omega
     obtain ⟨VA,vc,hvf,hil,hno⟩:=HO.o.il;have HNO:=qh hno;subst hvf;have HIL:=qh hil;have HF:Hid (v4 acc=dv s):=by have:=HV.o;rw [List.drop_zero] at this;exact this
     clear hil hno hm HV;go_wp2_with fail;refine (ref_trimD wo VA acc.length vc acc HIL.o HNO.o HW.o (by omega)).mono ?_;rw [HF.o];rintro e w1 ⟨⟨A1,n1,c1,rfl,hd1⟩,h1⟩;subst w1;have HD1:=qh hd1;clear hd1;dsimp only;go_wp2_with fail;go_ret2
     exact ⟨⟨A1,n1,c1,rfl,HD1.o⟩,HBB.o⟩
    obtain ⟨f,hf⟩:∃ f,m - 4=f:=⟨_,rfl⟩;have hmI:en=(m:Int):=by omega
    subst hmI;clear hm;have hfm:f≤m:=by omega
    have hmf:m - f≤4:=by omega
    have hmsl:(m:Int)≤(s.length:Int):=by omega
    by_cases h4:m<4
    ·have hI4:(m:Int) - 4<0:=by omega
     have hf0:f=0:=by omega
     go_wp2_with fail;go_loop [7,9] (fun nn i=>∃ j:Nat,f≤j∧j≤m∧i=.int .i64 (j:Int)∧nn=.int .i64 ((dv ((s.drop f).take (j - f)):Nat):Int)) (fun _ i=>m - (intOf i).toNat)
     case atStart=>exact ⟨f,ql,hfm,by rw [hf0];rfl,by rw [Nat.sub_self];rfl⟩
     case round =>
      obtain ⟨j,hfj,hjm,rfl,rfl⟩:=hrel;have hdj:∀ b ∈ (s.drop f).take (j - f),isDig b=true:=fun b hb=>HD.o b (List.mem_of_mem_drop (List.mem_of_mem_take hb))
      have hnl:dv ((s.drop f).take (j - f))<10000:=by
       refine Nat.lt_of_lt_of_le (dv_lt hdj) ?_;have h1:((s.drop f).take (j - f)).length≤4:=by rw [List.length_take];omega
       exact Nat.pow_le_pow_right (n:=10) (by decide) h1
      obtain ⟨x,hx⟩:∃ x,dv ((s.drop f).take (j - f))=x:=⟨_,rfl⟩;rw [hx] at hnl ⊢;have HX:=qh hx;clear hx hdj;by_cases hj:j<m
      ·have hjI:(j:Int)<(m:Int):=by omega
       have hj0:(0:Int)≤(j:Int):=by omega
       have hjs:(j:Int)<(s.length:Int):=by omega
       obtain ⟨d,hkk,hdx,hsj,h48,h57⟩:=dig_at HD.o (k:=j) (by omega);obtain ⟨y,hy⟩:∃ y,d - 48=y:=⟨_,rfl⟩;obtain ⟨t,ht⟩:∃ t,10 * x=t:=⟨_,rfl⟩;obtain ⟨r,hr⟩:∃ r,t+y=r:=⟨_,rfl⟩;have hyI:(d:Int) - 48=(y:Int):=by omega
       have htI:(10:Int) * (x:Int)=(t:Int):=by omega
       have hrI:(t:Int)+(y:Int)=(r:Int):=by omega
       have hy9:y≤9:=by omega
       have ht9:t≤99990:=by omega
       have hr9:r≤99999:=by omega
       have hnext:dv ((s.drop f).take (j+1 - f))=r:=by
        rw [take_more hfj (by omega),dv_snoc,HX.o,hsj,byte_of d (by omega)];omega
       have HN:=qh hnext;clear hnext hsj hy ht hr;go_wp2_with fail;go_round
       case rel=>exact ⟨j+1,by omega,by omega,by go_num,by rw [HN.o]⟩
       case measure=>simp [intOf];omega
      ·have hjI:¬ (j:Int)<(m:Int):=by omega
       obtain rfl:j=m:=by omega
       have hx4:x<10000:=hnl;go_wp2_with (at_builtin;refine wpList_append_lies _ (by rfl) _ _ 66 (by rfl) w.heap.size 3 i3 (.int .i64 0) 1 8 Tryz.underlying66 hi3 hz0 hz1 hz2 rfl (by decide) u4 acc.length (nums acc) (by rfl) (World.ownsRow.alloc HO.o _) ⟨wo.heap.size,0,none⟩ 1 1 [.int .i64 (x:Int)] (by rfl) rfl (cell_one_new _ _ _) (by simp [Value.oneCell']) (by omega) (by omega) (by omega) (by simp;omega) (wo.heap.size+1) (by simp) ?_;intro g' cap' w1 hown hgrow hat hlt';have HO7:=qh hown;have HG7:=qh hgrow;clear hown hgrow hat)
       go_roundw
       case rel =>
        refine ⟨(j:Int) - 4,f,acc ++ [x],by go_num,by omega,by omega,by omega,ownN_push HO7.o,?_,?_,?_,by simp;omega,below_grown (HBB.o.alloc HBB.o.size _) HG7.o (Nat.le_trans HBB.o.size (by simp)) (fun i hi=>(World.ownsRow.lt HO.o i hi).1)⟩
        ·intro z hz;rcases List.mem_append.1 hz with h|h
         ·exact HW.o z h
         ·obtain rfl:=List.mem_singleton.1 h;exact hx4
        ·have h1:s.drop f=(s.drop f).take (j - f) ++ s.drop j:=by
          conv=>lhs;rw [← List.take_append_drop (j - f) (s.drop f)]
          rw [List.drop_drop,show f+(j - f)=j by omega]
         rw [h1,dv_app,HX.o,HLEN.o (by omega),v4_app,HV.o];simp only [v4,Nat.mul_zero,Nat.add_zero];rw [Nat.pow_mul,Nat.add_comm,Nat.mul_comm x]
        ·intro h0;have h2:=HLEN.o (by omega);rw [List.length_drop] at h2 ⊢;simp;omega
       case measure=>simp [intOf];omega
    ·have hI4:(m:Int) - 4=(f:Int):=by omega
     have hf0:¬ (f:Int)<0:=by omega
     go_wp2_with fail;go_loop [7,9] (fun nn i=>∃ j:Nat,f≤j∧j≤m∧i=.int .i64 (j:Int)∧nn=.int .i64 ((dv ((s.drop f).take (j - f)):Nat):Int)) (fun _ i=>m - (intOf i).toNat)
     case atStart=>exact ⟨f,ql,hfm,rfl,by rw [Nat.sub_self];rfl⟩
     case round =>
      obtain ⟨j,hfj,hjm,rfl,rfl⟩:=hrel;have hdj:∀ b ∈ (s.drop f).take (j - f),isDig b=true:=fun b hb=>HD.o b (List.mem_of_mem_drop (List.mem_of_mem_take hb))
      have hnl:dv ((s.drop f).take (j - f))<10000:=by
       refine Nat.lt_of_lt_of_le (dv_lt hdj) ?_;have h1:((s.drop f).take (j - f)).length≤4:=by rw [List.length_take];omega
       exact Nat.pow_le_pow_right (n:=10) (by decide) h1
      obtain ⟨x,hx⟩:∃ x,dv ((s.drop f).take (j - f))=x:=⟨_,rfl⟩;rw [hx] at hnl ⊢;have HX:=qh hx;clear hx hdj;by_cases hj:j<m
      ·have hjI:(j:Int)<(m:Int):=by omega
       have hj0:(0:Int)≤(j:Int):=by omega
       have hjs:(j:Int)<(s.length:Int):=by omega
       obtain ⟨d,hkk,hdx,hsj,h48,h57⟩:=dig_at HD.o (k:=j) (by omega);obtain ⟨y,hy⟩:∃ y,d - 48=y:=⟨_,rfl⟩;obtain ⟨t,ht⟩:∃ t,10 * x=t:=⟨_,rfl⟩;obtain ⟨r,hr⟩:∃ r,t+y=r:=⟨_,rfl⟩;have hyI:(d:Int) - 48=(y:Int):=by omega
       have htI:(10:Int) * (x:Int)=(t:Int):=by omega
       have hrI:(t:Int)+(y:Int)=(r:Int):=by omega
       have hy9:y≤9:=by omega
       have ht9:t≤99990:=by omega
       have hr9:r≤99999:=by omega
       have hnext:dv ((s.drop f).take (j+1 - f))=r:=by
        rw [take_more hfj (by omega),dv_snoc,HX.o,hsj,byte_of d (by omega)];omega
       have HN:=qh hnext;clear hnext hsj hy ht hr;go_wp2_with fail;go_round
       case rel=>exact ⟨j+1,by omega,by omega,by go_num,by rw [HN.o]⟩
       case measure=>simp [intOf];omega
      ·have hjI:¬ (j:Int)<(m:Int):=by omega
       obtain rfl:j=m:=by omega
       have hx4:x<10000:=hnl;go_wp2_with (at_builtin;refine wpList_append_lies _ (by rfl) _ _ 66 (by rfl) w.heap.size 3 i3 (.int .i64 0) 1 8 Tryz.underlying66 hi3 hz0 hz1 hz2 rfl (by decide) u4 acc.length (nums acc) (by rfl) (World.ownsRow.alloc HO.o _) ⟨wo.heap.size,0,none⟩ 1 1 [.int .i64 (x:Int)] (by rfl) rfl (cell_one_new _ _ _) (by simp [Value.oneCell']) (by omega) (by omega) (by omega) (by simp;omega) (wo.heap.size+1) (by simp) ?_;intro g' cap' w1 hown hgrow hat hlt';have HO7:=qh hown;have HG7:=qh hgrow;clear hown hgrow hat)
       go_roundw
       case rel =>
        refine ⟨(j:Int) - 4,f,acc ++ [x],by go_num,by omega,by omega,by omega,ownN_push HO7.o,?_,?_,?_,by simp;omega,below_grown (HBB.o.alloc HBB.o.size _) HG7.o (Nat.le_trans HBB.o.size (by simp)) (fun i hi=>(World.ownsRow.lt HO.o i hi).1)⟩
        ·intro z hz;rcases List.mem_append.1 hz with h|h
         ·exact HW.o z h
         ·obtain rfl:=List.mem_singleton.1 h;exact hx4
        ·have h1:s.drop f=(s.drop f).take (j - f) ++ s.drop j:=by
          conv=>lhs;rw [← List.take_append_drop (j - f) (s.drop f)]
          rw [List.drop_drop,show f+(j - f)=j by omega]
         rw [h1,dv_app,HX.o,HLEN.o (by omega),v4_app,HV.o];simp only [v4,Nat.mul_zero,Nat.add_zero];rw [Nat.pow_mul,Nat.add_comm,Nat.mul_comm x]
        ·intro h0;have h2:=HLEN.o (by omega);rw [List.length_drop] at h2 ⊢;simp;omega
       case measure=>simp [intOf];omega
end Go.Proofs.YtdgleeglndcjhaaGreatDoor
namespace Go.Proofs.YtdgleeglndcjhaaGreatDoor
def condX:List Bs→Option (Cnd × Nat)
 | [l] :: q :: t :: r=>if l ∈ letters then
   if q=[37] then
    match num? t with
    | none=>none
    | some m=>if m=0 then none else
     match r with
     | q' :: t' :: _=>(tail? l.toNat m [q',t']).map fun c=>(c,5)
     | _=>none
   else (tail? l.toNat 0 [q,t]).map fun c=>(c,3)
  else none
 | _=>none
theorem condX_of {seg:List Bs} {c:Cnd} (h:cond? seg=some c) (t:List Bs):condX (seg ++ t)=some (c,seg.length):=by
 unfold cond? at h;split at h
 ·rename_i l r;split at h
  ·rename_i hl;split at h
   ·rename_i p x r';split at h
    ·rename_i hp;subst hp;split at h
     ·cases h
     ·rename_i m hm;split at h
      ·cases h
      ·rename_i hm0;obtain ⟨nt,s,L,rfl,hL,rfl⟩:=tail?_some h;simp only [List.cons_append,condX,hl,if_true,hm,if_neg hm0,tail?_is _ _ nt s L hL,Option.map_some]
       rfl
    ·rename_i hp;obtain ⟨nt,s,L,hr,hL,rfl⟩:=tail?_some h
     obtain ⟨rfl,rfl,rfl⟩:p=(if nt then [33,61] else [61])∧x=s∧r'=[]:=by
      simpa using hr
     simp only [List.cons_append,condX,hl,if_true,if_neg hp,tail?_is _ _ nt x L hL,Option.map_some]
     rfl
   ·cases h
  ·cases h
 ·cases h
theorem condX_some {w:List Bs} {c:Cnd} {n:Nat} (h:condX w=some (c,n)):∃ seg t,w=seg ++ t∧seg.length=n∧cond? seg=some c:=by
 unfold condX at h;split at h
 ·rename_i l q t r;split at h
  ·rename_i hl;split at h
   ·rename_i hq;subst hq;split at h
    ·cases h
    ·rename_i m hm;split at h
     ·cases h
     ·rename_i hm0;split at h
      ·rename_i q' t' r';obtain ⟨d,hd,e⟩:=Option.map_eq_some_iff.1 h;cases e
       exact ⟨[[l],[37],t,q',t'],r',rfl,rfl,by simp [cond?,hl,hm,hm0,hd]⟩
      ·cases h
   ·rename_i hq;obtain ⟨d,hd,e⟩:=Option.map_eq_some_iff.1 h;cases e
    exact ⟨[[l],q,t],r,rfl,rfl,by simp [cond?,hl,hq,hd]⟩
  ·cases h
 ·cases h
theorem cond?_clean {seg:List Bs} {c:Cnd} (h:cond? seg=some c):wOr ∉ seg∧wAnd ∉ seg:=by
 have k1:list? wOr=none:=by decide +kernel
 have k2:list? wAnd=none:=by decide +kernel
 have k3:num? wOr=none:=by decide +kernel
 have k4:num? wAnd=none:=by decide +kernel
 have kt:∀ (nt:Bool) (s:Bs) (L:List (Nat × Nat)),list? s=some L→∀ x ∈ [(if nt then [33,61] else [61]:Bs),s],x≠wOr∧x≠wAnd:=by
  intro nt s L hL x hx;simp only [List.mem_cons,List.not_mem_nil,or_false] at hx;rcases hx with rfl|rfl
  ·cases nt <;> simp [wOr,wAnd]
  ·exact ⟨fun e=>(by rw [e,k1] at hL;cases hL),fun e=>(by rw [e,k2] at hL;cases hL)⟩
 have main:∀ x ∈ seg,x≠wOr∧x≠wAnd:=by
  unfold cond? at h;split at h
  ·rename_i l r;split at h
   ·rename_i hl;split at h
    ·rename_i p y r';split at h
     ·rename_i hp;subst hp;split at h
      ·cases h
      ·rename_i m hm;split at h
       ·cases h
       ·obtain ⟨nt,s,L,rfl,hL,rfl⟩:=tail?_some h;intro x hx;rcases List.mem_cons.1 hx with rfl|hx
        ·simp [wOr,wAnd]
        rcases List.mem_cons.1 hx with rfl|hx
        ·simp [wOr,wAnd]
        rcases List.mem_cons.1 hx with rfl|hx
        ·exact ⟨fun e=>(by rw [e,k3] at hm;cases hm),fun e=>(by rw [e,k4] at hm;cases hm)⟩
        exact kt nt s L hL x hx
     ·obtain ⟨nt,s,L,hr,hL,rfl⟩:=tail?_some h;intro x hx;rcases List.mem_cons.1 hx with rfl|hx
      ·simp [wOr,wAnd]
      rw [hr] at hx;exact kt nt s L hL x hx
    ·cases h
   ·cases h
  ·cases h
 exact ⟨fun hm=>(main _ hm).1 rfl,fun hm=>(main _ hm).2 rfl⟩
theorem splitG_head {α:Type} [DecidableEq α] (c:α) (a w:List α) (h:c ∉ a):∃ x t,splitG c w=x :: t∧splitG c (a ++ w)=(a ++ x) :: t:=by
 induction a with
 | nil=>obtain ⟨x,t,e⟩:=splitG_ex c w;exact ⟨x,t,e,e⟩
 | cons b a ih =>
  obtain ⟨x,t,e1,e2⟩:=ih (fun hm=>h (List.mem_cons_of_mem _ hm));exact ⟨x,t,e1,splitG_other (fun e=>h (by simp [e])) e2⟩
def rowsW (w:List Bs):Option Rl:=all? row? (splitG wOr w)
def goX:Nat→Rl→List Cnd→List Bs→Option Rl
 | 0,_,_,_=>none
 | f+1,R,row,w=>match condX w with
  | none=>none
  | some (c,n)=>match w.drop n with
   | []=>some (R ++ [row ++ [c]])
   | x :: t=>if x=wAnd then goX f R (row ++ [c]) t else if x=wOr then goX f (R ++ [row ++ [c]]) [] t else none
def addR (R:Rl) (row:List Cnd):Option Rl→Option Rl
 | some (l :: ls)=>some (R ++ (row ++ l) :: ls)
 | _=>none
theorem all?_cons_none {α β:Type} {f:α→Option β} {a:α} (h:f a=none) (l:List α):all? f (a :: l)=none:=by simp [all?,h]
theorem row?_cons {seg h:List Bs} {c:Cnd} (hc:cond? seg=some c) (hn:wAnd ∉ seg):row? (seg ++ wAnd :: h)=(row? h).map (c :: ·):=by
 unfold row?;rw [splitG_app,splitG_free _ _ hn,List.singleton_append];simp only [all?,hc];cases all? cond? (splitG wAnd h) <;> rfl
theorem cond?_none_app {seg:List Bs} {c:Cnd} (hc:cond? seg=some c) {t:List Bs} (ht:t≠[]):cond? (seg ++ t)=none:=by
 cases e:cond? (seg ++ t) with
 | none=>rfl
 | some d =>
  exfalso;have h1:=condX_of hc t;have h2:=condX_of e [];rw [List.append_nil,h1] at h2;have h3:=congrArg (Prod.snd) (Option.some.inj h2);simp only [List.length_append] at h3;exact ht (List.eq_nil_of_length_eq_zero (by omega))
theorem goX_eq:∀ (f:Nat) (R:Rl) (row:List Cnd) (w:List Bs),w.length<f→goX f R row w=addR R row (rowsW w)
 | 0,_,_,_,h=>absurd h (Nat.not_lt_zero _)
 | f+1,R,row,w,h=>by
  unfold goX;cases e:condX w with
  | none =>
   simp only []
   have hr:rowsW w=none:=by
    obtain ⟨x,t,e1⟩:=splitG_ex wOr w;obtain ⟨y,u,e2⟩:=splitG_ex wAnd x
    have hy:cond? y=none:=by
     cases e3:cond? y with
     | none=>rfl
     | some c =>
      exfalso;have hw:=joinG_split wOr w;have hx:=joinG_split wAnd x;rw [e1] at hw;rw [e2] at hx
      have p1:∃ r,x=y ++ r:=by
       cases u with
       | nil=>exact ⟨[],by rw [← hx];simp [joinG]⟩
       | cons z u=>exact ⟨_,by rw [← hx,joinG_cons _ _ (by simp)]⟩
      have p2:∃ r,w=x ++ r:=by
       cases t with
       | nil=>exact ⟨[],by rw [← hw];simp [joinG]⟩
       | cons z u=>exact ⟨_,by rw [← hw,joinG_cons _ _ (by simp)]⟩
      obtain ⟨r1,h1⟩:=p1;obtain ⟨r2,h2⟩:=p2;have:=condX_of e3 (r1 ++ r2);rw [← List.append_assoc,← h1,← h2,e] at this;cases this
    unfold rowsW;rw [e1];refine all?_cons_none ?_ t;unfold row?;rw [e2];exact all?_cons_none hy u
   rw [hr];rfl
  | some cn =>
   obtain ⟨c,n⟩:=cn;obtain ⟨seg,t,rfl,rfl,hc⟩:=condX_some e;obtain ⟨ho,ha⟩:=cond?_clean hc;simp only [List.drop_left]
   have hone:row? seg=some [c]:=by
    unfold row?;rw [splitG_free _ _ ha];simp [all?,hc]
   cases t with
   | nil =>
    simp only [List.append_nil];unfold rowsW;rw [splitG_free _ _ ho];simp [all?,hone,addR]
   | cons x t =>
    simp only [];have hl:t.length<f:=by simp at h;omega
    by_cases hx:x=wAnd
    ·rw [if_pos hx,goX_eq f _ _ t hl];subst hx;unfold rowsW
     obtain ⟨y,u,e1,e2⟩:=splitG_head wOr (seg ++ [wAnd]) t (by
      intro hm;rcases List.mem_append.1 hm with hm|hm
      ·exact ho hm
      ·have:=List.mem_singleton.1 hm
       simp [wOr,wAnd] at this)
     have e3:splitG wOr (seg ++ wAnd :: t)=(seg ++ wAnd :: y) :: u:=by simpa using e2
     rw [e1,e3];simp only [all?,row?_cons hc ha];cases row? y with
     | none=>rfl
     | some l =>
      simp only [Option.map_some];cases all? row? u <;> simp [addR]
    ·rw [if_neg hx];by_cases hy:x=wOr
     ·rw [if_pos hy,goX_eq f _ _ t hl];subst hy;unfold rowsW;rw [splitG_app,splitG_free _ _ ho,List.singleton_append];obtain ⟨y,u,e1⟩:=splitG_ex wOr t;rw [e1];simp only [all?,hone];cases row? y with
      | none=>rfl
      | some l=>cases all? row? u <;> simp [addR]
     ·rw [if_neg hy]
      have hr:rowsW (seg ++ x :: t)=none:=by
       unfold rowsW
       obtain ⟨y,u,e1,e2⟩:=splitG_head wOr (seg ++ [x]) t (by
        intro hm;rcases List.mem_append.1 hm with hm|hm
        ·exact ho hm
        ·exact hy (List.mem_singleton.1 hm).symm)
       have e3:splitG wOr (seg ++ x :: t)=(seg ++ x :: y) :: u:=by simpa using e2
       rw [e3];refine all?_cons_none ?_ u;unfold row?
       obtain ⟨z,v,e4,e5⟩:=splitG_head wAnd (seg ++ [x]) y (by
        intro hm;rcases List.mem_append.1 hm with hm|hm
        ·exact ha hm
        ·exact hx (List.mem_singleton.1 hm).symm)
       have e6:splitG wAnd (seg ++ x :: y)=(seg ++ x :: z) :: v:=by simpa using e5
       rw [e6];exact all?_cons_none (cond?_none_app hc (by simp)) v
      rw [hr];rfl
theorem goX_rule (s:Bs):goX ((splitG 32 s).length+1) [] [] (splitG 32 s)=rule? s:=by
 rw [goX_eq _ _ _ _ (Nat.lt_succ_self _)];unfold rule? rowsW;cases e:all? row? (splitG wOr (splitG 32 s)) with
 | none=>rfl
 | some r =>
  cases r with
  | nil=>exact absurd ((all?_F2 e).nil_iff.2 rfl) (splitG_ne _ _)
  | cons l ls=>simp [addR]
end Go.Proofs.YtdgleeglndcjhaaGreatDoor
namespace Go.Proofs.YtdgleeglndcjhaaGreatDoor
open Go.RowKit
theorem dec_step {s:Bs} {k m d:Nat} (hk:k<s.length) (h:Lib.decFrom 0 (s.take k)=some m) (hd:s[k]=UInt8.ofNat d) (h48:48≤d) (h57:d≤57):Lib.decFrom 0 (s.take (k+1))=some (10 * m+(d - 48)):=by
 rw [List.take_add_one,List.getElem?_eq_getElem hk,decFrom_app _ _ _ _ h,hd];obtain ⟨x,hx⟩:∃ x,d=48+x:=⟨d - 48,by omega⟩;subst hx;simp only [Option.toList,Lib.decFrom,digitVal_of x (by omega)]
 congr 1
 omega
theorem ref_number (w:World) (s:Bs) (hs:s.length≤1000000) :
  Calls Tryz.prog 106 #[.string ⟨s.toArray⟩] w fun e w'=>e=.returned (.tuple #[.int .i64 (((num? s).getD 0:Nat):Int),.bool (num? s).isSome])∧w'=w:=by
 by_cases h1:s.length<1
 ·have h1I:(s.length:Int)<1:=by omega
  have hn:num? s=none:=num?_none (.inl (List.eq_nil_of_length_eq_zero (by omega)));rw [hn];clear hn h1;go_enter Tryz.func106,Tryz.ntmps106;go_wp2_with fail;go_ret2
  exact ⟨rfl,rfl⟩
 have h1I:¬ (s.length:Int)<1:=by omega
 by_cases h9:9<s.length
 ·have h9I:9<(s.length:Int):=by omega
  have hn:num? s=none:=num?_none (.inr (.inl h9));rw [hn];clear hn h1 h9;go_enter Tryz.func106,Tryz.ntmps106;go_wp2_with fail;go_ret2
  exact ⟨rfl,rfl⟩
 have h9I:¬ 9<(s.length:Int):=by omega
 obtain ⟨x0,hx0⟩:∃ x,s[0]?=some x:=⟨s[0]'(by omega),List.getElem?_eq_getElem _⟩;obtain ⟨hk0,e0⟩:=ba_get s 0 x0 hx0;obtain ⟨d0,hd0⟩:∃ d,x0.toNat=d:=⟨_,rfl⟩;have e0':((⟨s.toArray⟩:ByteArray)[0]).toNat=d0:=by rw [e0,hd0]
 have hnz:d0=48→s.head?=some 48:=by
  intro h;rw [List.head?_eq_getElem?,hx0]
  congr 1
  apply UInt8.toNat_inj.1
  rw [hd0,h];rfl
 by_cases hz:1<s.length∧d0=48
 ·have h1J:1<(s.length:Int):=by omega
  have hn:num? s=none:=num?_none (.inr (.inr (.inr ⟨hz.1,hnz hz.2⟩)));have hdI:((d0:Int) == 48)=true:=by rw [hz.2];rfl
  rw [hn];clear hn h1 h9 hz hnz hd0 hx0 e0;go_enter Tryz.func106,Tryz.ntmps106;go_wp2_with fail;go_ret2
  exact ⟨rfl,rfl⟩
 have hz':¬ (1<s.length∧s.head?=some 48):=by
  rintro ⟨a,b⟩;refine hz ⟨a,?_⟩;rw [List.head?_eq_getElem?,hx0] at b;rw [← hd0,Option.some.inj b];rfl
 have HFIN:Hid (∀ m,Lib.decFrom 0 s=some m→num? s=some m):=fun m hm=>by
  unfold num?;rw [if_neg]
  ·unfold Lib.decNat;rw [if_neg (by simp;intro e;subst e;simp at h1)];exact hm
  ·rintro (h|h|h)
   ·subst h;simp at h1
   ·exact h9 h
   ·exact hz' h
 have HL:Hid (s.length≤9):=by show _≤_;omega
 have hcase:(¬ 1<(s.length:Int))∨(1<(s.length:Int)∧((d0:Int) == 48)=false):=by
  by_cases h:1<s.length
  ·right;refine ⟨by omega,?_⟩;rw [beq_eq_false_iff_ne];intro e;exact hz ⟨h,by omega⟩
  ·left;omega
 clear hx0 hd0 e0 hnz hz hz' h9 h1;rcases hcase with hA|⟨hA,hB⟩
 all_goals
  go_enter Tryz.func106,Tryz.ntmps106;go_wp2_with fail;go_loop [4,5] (fun n i=>∃ k m:Nat,k≤s.length∧i=.int .i64 (k:Int)∧n=.int .i64 (m:Int)∧Lib.decFrom 0 (s.take k)=some m) (fun _ i=>s.length - (intOf i).toNat)
  case atStart=>exact ⟨0,0,Nat.zero_le _,rfl,rfl,rfl⟩
  case round =>
   obtain ⟨k,m,hk,rfl,rfl,hm⟩:=hrel;have HM:=qh hm
   have hlt9:m<1000000000:=by
    have h2:=Lib.decFrom_lt _ _ _ hm;have h3:10 ^ (s.take k).length≤10 ^ 9:=Nat.pow_le_pow_right (by decide) (by rw [List.length_take];have:=HL.o;omega);simp only [Nat.zero_add,Nat.one_mul] at h2;omega
   clear hm;by_cases hlt:k<s.length
   ·have hI:(k:Int)<(s.length:Int):=by omega
    have hk0:(0:Int)≤(k:Int):=by omega
    obtain ⟨hkk,ex⟩:=ba_get s k s[k] (List.getElem?_eq_getElem hlt);obtain ⟨d,hd⟩:∃ d,s[k].toNat=d:=⟨_,rfl⟩;have ex':((⟨s.toArray⟩:ByteArray)[k]).toNat=d:=by rw [ex,hd]
    have hsk:s[k]=UInt8.ofNat d:=by rw [← hd];simp
    have HSK:=qh hsk;have hd256:d<256:=by rw [← hd];exact UInt8.toNat_lt _
    have hnone:¬ (48≤d∧d≤57)→num? s=none:=fun h=>num?_none (.inr (.inr (.inl ⟨s[k],List.getElem_mem hlt,by unfold isDig;rw [hd];exact decide_eq_false h⟩)));have HNO:Hid (¬ (48≤d∧d≤57)→num? s=none):=hnone;clear ex hd hsk hnone;by_cases h48:d<48
    ·have h48I:(d:Int)<48:=by omega
     have HN:Hid (num? s=none):=HNO.o (by omega);go_wp2_with fail;go_ret2
     exact ⟨by rw [HN.o];rfl,rfl⟩
    have h48I:¬ (d:Int)<48:=by omega
    by_cases h57:57<d
    ·have h57I:57<(d:Int):=by omega
     have HN:Hid (num? s=none):=HNO.o (by omega);go_wp2_with fail;go_ret2
     exact ⟨by rw [HN.o];rfl,rfl⟩
    have h57I:¬ 57<(d:Int):=by omega
    obtain ⟨y,hy⟩:∃ y,d - 48=y:=⟨_,rfl⟩;obtain ⟨t,ht⟩:∃ t,10 * m=t:=⟨_,rfl⟩;obtain ⟨r,hr⟩:∃ r,t+y=r:=⟨_,rfl⟩;have hyI:(d:Int) - 48=(y:Int):=by omega
    have htI:(10:Int) * (m:Int)=(t:Int):=by omega
    have hrI:(t:Int)+(y:Int)=(r:Int):=by omega
    have hy9:y≤9:=by omega
    have ht9:t≤10000000000:=by omega
    have hr9:r≤10000000009:=by omega
    have hnx:=dec_step hlt HM.o HSK.o (by omega) (by omega);rw [hy,ht,hr] at hnx;have HNX:=qh hnx;clear hnx hy ht hr;go_wp2_with fail;go_round
    case rel=>exact ⟨k+1,r,by omega,by go_num,by go_num,HNX.o⟩
    case measure=>simp [intOf];omega
   ·have hI:¬ (k:Int)<(s.length:Int):=by omega
    have hfin:num? s=some m:=HFIN.o m (by have:=HM.o;rw [List.take_of_length_le (by omega)] at this;exact this);have HF:=qh hfin;clear hfin;go_wp2_with fail;go_ret2
    exact ⟨by rw [HF.o];rfl,rfl⟩
end Go.Proofs.YtdgleeglndcjhaaGreatDoor
