import Derived.Test.YtdgleeglndcjhaaGreatDoorX33
import Derived.Test.YtdgleeglndcjhaaGreatDoorX08
set_option linter.unusedSimpArgs false
set_option linter.unusedVariables false
set_option maxHeartbeats 16000000
set_option maxRecDepth 100000
namespace Go.Proofs.YtdgleeglndcjhaaGreatDoor
open Go.RowKit
theorem dv_padD (S k:Nat):dv (padD S k)=k % 10 ^ S:=by
 have h1:=decFrom_padD S (k % 10 ^ S) 0 (Nat.mod_lt _ (Nat.pow_pos (by decide)));rw [padD_mod] at h1
 have h2:∀ b ∈ padD S k,isDig b=true:=by
  intro b hb;obtain ⟨i,hi⟩:=List.getElem?_of_mem hb;obtain ⟨d,hd⟩:=Lib.digit_of_decFrom _ 0 _ h1 i b hi;rw [isDig_val,hd];rfl
 rw [dv_dec h2] at h1;simpa using h1
theorem padD_dig (S k:Nat):∀ b ∈ (48 :: padD S k:Bs),isDig b=true:=by
 intro b hb;rcases List.mem_cons.1 hb with rfl|hb
 ·rfl
 ·have h1:=decFrom_padD S (k % 10 ^ S) 0 (Nat.mod_lt _ (Nat.pow_pos (by decide)));rw [padD_mod] at h1;obtain ⟨i,hi⟩:=List.getElem?_of_mem hb;obtain ⟨d,hd⟩:=Lib.digit_of_decFrom _ 0 _ h1 i b hi;rw [isDig_val,hd];rfl
theorem dv_zero (t:Bs):dv (48 :: t)=dv t:=by
 rw [show (48 :: t:Bs)=[48] ++ t from rfl,dv_app];simp [dv]
theorem Low.abs {P:Int} {Q:Nat} {p:Int} {q:Nat} (h:Low P Q p q):Low (P.natAbs:Int) Q (p.natAbs:Int) q:=by
 refine ⟨h.pos,by simpa using h.cop,?_⟩;have:=congrArg Int.natAbs h.eq;simp only [Int.natAbs_mul,Int.natAbs_natCast] at this
 exact_mod_cast this
theorem dec_len4 {k m:Nat} (h:(d4 k).length≤m) (hm:0<m):(Lib.decDigits k).length≤4 * m:=by
 have h1:k<10 ^ (4 * m):=Nat.lt_of_lt_of_le (d4_lt k) (by
  rw [Nat.pow_mul]
  exact Nat.pow_le_pow_right (by decide) h)
 exact (padD_eq (4 * m) k h1 (by omega)).1
theorem ref_DPart0 (w:World) (A:Option Addr) (n c k S:Nat) (b:Bool) (h:D4 w A n c k) (hl:(d4 k).length≤20000) (hS:S≤1000) :
  Calls Tryz.prog 166 #[.agg #[.bool b,.slice A n c,.int .i64 (S:Int)]] w fun e w'=>e=.returned (.string ⟨(padD S k).toArray⟩)∧Below w.heap.size w w' :=
 ref_DPart w b A n c k S h (le_of_le hl) (le_of_le hS) (by
  have:=dec_len4 hl (by decide)
  omega)
def RetV (e:Ending) (w':World) (P Q:Nat) (ok:Bool):Prop:=∃ p q b A n c B m d,e=.returned (.tuple #[.agg #[.bool b,.slice A n c,.slice B m d],.bool ok])∧RQ4 w' b A n c B m d p q∧Low (P:Int) Q p q
theorem short_bound (S k:Nat):(short k S).1≤k∧(short k S).2≤S:=⟨(short_le S k).2,(short_le S k).1⟩
theorem ref_Value (w:World) (b:Bool) (A:Option Addr) (n c k S l:Nat) (h:D4 w A n c k) (hl:(d4 k).length≤20000) (hS:S≤1000) :
  Calls Tryz.prog 105 #[.agg #[.bool b,.slice A n c,.int .i64 (S:Int)],.int .u8 (l:Int)] w fun e w'=>RetV e w' (ofVal k S l).1 (ofVal k S l).2 (decide (l ∈ letters.map UInt8.toNat))∧Below w.heap.size w w':=by
 have HX:=qh h;have L1:=qh hl;obtain ⟨k2,hk2⟩:∃ k2,(short k S).1=k2:=⟨_,rfl⟩;obtain ⟨s2,hs2⟩:∃ s2,(short k S).2=s2:=⟨_,rfl⟩;have hb:=short_bound S k;rw [hk2,hs2] at hb;have hs1:s2≤1000:=by omega
 have L2:Hid ((d4 k2).length≤20000):=Nat.le_trans (d4_len_le hb.1) hl;have HOF:Hid (∀ l,ofVal k S l=opVal k (10 ^ S) (k / 10 ^ S) S s2 (k % 10 ^ S) (k2 % 10 ^ s2) l):=fun l=>by rw [← hk2,← hs2];rfl
 have HK2:=qh hk2;have HS2:=qh hs2;clear h hl hk2 hs2 hb;go_enter Tryz.func105,Tryz.ntmps105;go_upto_region 1 with fail;refine wp_letter (fun w1=>Blk w1 w.heap.size 68 [.bool b,.slice A n c,.int .i64 (S:Int)]∧Blk w1 (w.heap.size+1) 173 [.bool false,.slice none 0 0,.slice none 0 0]∧Below w.heap.size w w1) ⟨((Blk.made _ 68 _ _ _ (by simp) rfl).alloc _),(Blk.made _ 173 _ _ _ (by simp) rfl),((Below.refl _ _).alloc (by simp;try omega) _).alloc (by simp;try omega) _⟩ ?_;rintro w1 ⟨b0,b1,hb⟩;have K0:=qh b0;have K1:=qh b1;have HB:=qh hb;obtain ⟨-,k01,k02⟩:=b0.c3;have hz:=b1.lt;clear b0 b1 hb;go_wp2_with fail;refine (ref_DShort w1 A n c k S (HX.o.bel HB.o) (le_of_le L1.o) hS).mono ?_;rw [HK2.o,HS2.o];rintro e w2 ⟨⟨A2,n2,c2,rfl,hd2⟩,hb2⟩;have HD2:=qh hd2;have x0:=K0.o.below hb2 (by omega);have x1:=K1.o.below hb2 (by omega);have hb02:=HB.o.trans (hb2.mono HB.o.size);have hX2:=(HX.o.bel HB.o).bel hb2;have X0:=qh x0;have X1:=qh x1;have HB2:=qh hb02;have HX2:=qh hX2;have hz2:=x1.lt;clear hd2 hb2 x0 x1 hb02 hX2 k01 k02 K0 K1 HX HK2 HS2;dsimp only;go_upto_region 2 with fail;have hal:Below w2.heap.size w2 (w2.alloc (.cells #[.bool false,.slice A2 n2 c2,.int .i64 (s2:Int)] 68)):=(Below.refl _ _).alloc ql _;refine wp_letter (fun wx=>Blk wx w.heap.size 68 [.bool b,.slice A n c,.int .i64 (S:Int)]∧Blk wx (w.heap.size+1) 173 [.bool false,.slice none 0 0,.slice none 0 0]∧Blk wx w2.heap.size 68 [.bool false,.slice A2 n2 c2,.int .i64 (s2:Int)]∧D4 wx A n c k∧D4 wx A2 n2 c2 k2∧Below w.heap.size w wx) ⟨X0.o.alloc _,X1.o.alloc _,Blk.made _ 68 _ _ _ rfl rfl,HX2.o.bel hal,HD2.o.bel hal,HB2.o.trans (hal.mono HB2.o.size)⟩ ?_;clear hal X0 X1 HB2 HX2 HD2;generalize w2.heap.size=g6 at *
 rintro wx ⟨x0,x1,x2,x3,x4,x5⟩;have X0:=qh x0;have X1:=qh x1;have X2:=qh x2;have HX:=qh x3;have HD:=qh x4;have HBX:=qh x5;have hzx:=x1.lt;obtain ⟨k00,k01,k02⟩:=x0.c3;obtain ⟨k60,k61,k62⟩:=x2.c3;clear x0 x1 x2 x3 x4 x5 HB;by_cases c110:l=110
 case pos =>
  have e110:((l:Int) == 110)=true:=by rw [beq_iff_eq];omega
  have HL:Hid (ofVal k S l=(k,10 ^ S)∧decide (l ∈ letters.map UInt8.toNat)=true):=⟨by rw [HOF.o,c110];rfl,by rw [c110];rfl⟩;clear c110;go_wp2_with fail;refine (ref_DRat wx b A n c k S HX.o (le_of_le L1.o) hS).mono ?_;rintro e w3 ⟨⟨p,q,⟨b3,A3,n3,c3,B3,m3,d3,rfl,hr3⟩,hlow⟩,hb3⟩;have HR3:=qh hr3;have HLOW:Hid (Low (k:Int) (10 ^ S) (p.natAbs:Int) q):=by have:=hlow.abs;rw [(signed_form b k).2] at this;exact this
  have HB3:=qh hb3;clear hr3 hlow hb3;dsimp only;go_wp2_with fail;refine (ref_Abs w3 b3 A3 n3 c3 B3 m3 d3 p q HR3.o).mono ?_;rintro e w4 ⟨⟨b4,A4,n4,c4,B4,m4,d4',rfl,hr4⟩,hb4⟩;have hbc:Below wx.heap.size wx w4:=HB3.o.trans (hb4.mono HB3.o.size);have y1:=X1.o.below hbc X1.o.lt;have Y1:=qh y1;have HRQ:=qh (hr4);have HBF:=qt HBX hbc;obtain ⟨q0,q1,q2,f0,f1,f2⟩:=y1.cf3;clear hbc y1;dsimp only;go_wp2_with fail;have hf:=((Y1.o.put 0 (.bool b4)).put 1 (.slice A4 n4 c4)).put 2 (.slice B4 m4 d4');simp only [M0,M1] at hf;have hs:=HRQ.o.up.d4.put3 Y1.o (noI_q _ _ _ _ _ _ _) (.bool b4) (.slice A4 n4 c4) (.slice B4 m4 d4');have hs2:=HRQ.o.down.put3 Y1.o (noI_q _ _ _ _ _ _ _) (.bool b4) (.slice A4 n4 c4) (.slice B4 m4 d4');have hb5:=below_set (below_set (below_set HBF.o (w.heap.size+1) 0 (by omega) (.bool b4)) (w.heap.size+1) 1 (by omega) (.slice A4 n4 c4)) (w.heap.size+1) 2 (by omega) (.slice B4 m4 d4');obtain ⟨r0,r1,r2⟩:=hf.c3;generalize (((w4.setCell ⟨w.heap.size+1,0,none⟩ (.bool b4)).setCell ⟨w.heap.size+1,1,none⟩ (.slice A4 n4 c4)).setCell ⟨w.heap.size+1,2,none⟩ (.slice B4 m4 d4'))=wf at *
  refine bodyPost_ret (v:=.tuple #[.agg #[.bool b4,.slice A4 n4 c4,.slice B4 m4 d4'],.bool true]) (by simp [results,Tryz.results105,go_sem,r0,r1,r2];try rfl) rfl ?_;rw [HL.o.1,HL.o.2];exact ⟨⟨_,_,_,_,_,_,_,_,_,rfl,⟨⟨HRQ.o.up.sign,hs⟩,hs2⟩,HLOW.o⟩,hb5⟩
 by_cases c105:l=105
 case pos =>
  have e110:((l:Int) == 110)=false:=by rw [beq_eq_false_iff_ne];omega
  have e105:((l:Int) == 105)=true:=by rw [beq_iff_eq];omega
  have HL:Hid (ofVal k S l=(k / 10 ^ S,1)∧decide (l ∈ letters.map UInt8.toNat)=true):=⟨by rw [HOF.o,c105];rfl,by rw [c105];rfl⟩;clear c110 c105;go_wp2_with fail;refine (ref_DWhole wx b A n c k S HX.o (le_of_le L1.o) hS).mono ?_;rintro e w3 ⟨⟨A3,n3,c3,rfl,hr3⟩,hb3⟩;have HR3:=qh hr3;have HB3:=qh hb3;clear hr3 hb3;dsimp only;go_wp2_with fail;refine (ref_whole w3 A3 n3 c3 _ HR3.o).mono ?_;rintro e w4 ⟨⟨b4,A4,n4,c4,B4,m4,d4',rfl,hr4⟩,hb4⟩;have hbc:Below wx.heap.size wx w4:=HB3.o.trans (hb4.mono HB3.o.size);have y1:=X1.o.below hbc X1.o.lt;have Y1:=qh y1;have HRQ:=qh (hr4);have HBF:=qt HBX hbc;obtain ⟨q0,q1,q2,f0,f1,f2⟩:=y1.cf3;clear hbc y1;dsimp only;go_wp2_with fail;have hf:=((Y1.o.put 0 (.bool b4)).put 1 (.slice A4 n4 c4)).put 2 (.slice B4 m4 d4');simp only [M0,M1] at hf;have hs:=HRQ.o.up.d4.put3 Y1.o (noI_q _ _ _ _ _ _ _) (.bool b4) (.slice A4 n4 c4) (.slice B4 m4 d4');have hs2:=HRQ.o.down.put3 Y1.o (noI_q _ _ _ _ _ _ _) (.bool b4) (.slice A4 n4 c4) (.slice B4 m4 d4');have hb5:=below_set (below_set (below_set HBF.o (w.heap.size+1) 0 (by omega) (.bool b4)) (w.heap.size+1) 1 (by omega) (.slice A4 n4 c4)) (w.heap.size+1) 2 (by omega) (.slice B4 m4 d4');obtain ⟨r0,r1,r2⟩:=hf.c3;generalize (((w4.setCell ⟨w.heap.size+1,0,none⟩ (.bool b4)).setCell ⟨w.heap.size+1,1,none⟩ (.slice A4 n4 c4)).setCell ⟨w.heap.size+1,2,none⟩ (.slice B4 m4 d4'))=wf at *
  refine bodyPost_ret (v:=.tuple #[.agg #[.bool b4,.slice A4 n4 c4,.slice B4 m4 d4'],.bool true]) (by simp [results,Tryz.results105,go_sem,r0,r1,r2];try rfl) rfl ?_;rw [HL.o.1,HL.o.2];exact ⟨⟨_,_,_,_,_,_,_,_,_,rfl,⟨⟨HRQ.o.up.sign,hs⟩,hs2⟩,Low.int _⟩,hb5⟩
 by_cases c118:l=118
 case pos =>
  have e110:((l:Int) == 110)=false:=by rw [beq_eq_false_iff_ne];omega
  have e105:((l:Int) == 105)=false:=by rw [beq_eq_false_iff_ne];omega
  have e118:((l:Int) == 118)=true:=by rw [beq_iff_eq];omega
  have HL:Hid (ofVal k S l=(S,1)∧decide (l ∈ letters.map UInt8.toNat)=true):=⟨by rw [HOF.o,c118];rfl,by rw [c118];rfl⟩;clear c110 c105 c118;go_wp2_with fail;refine (ref_QInt wx S (by omega)).mono ?_;rintro e w4 ⟨⟨b4,A4,n4,c4,B4,m4,d4',rfl,hr4⟩,hb4⟩;have hbc:Below wx.heap.size wx w4:=hb4;have y1:=X1.o.below hbc X1.o.lt;have Y1:=qh y1;have HRQ:=qh (hr4);have HBF:=qt HBX hbc;obtain ⟨q0,q1,q2,f0,f1,f2⟩:=y1.cf3;clear hbc y1;dsimp only;go_wp2_with fail;have hf:=((Y1.o.put 0 (.bool b4)).put 1 (.slice A4 n4 c4)).put 2 (.slice B4 m4 d4');simp only [M0,M1] at hf;have hs:=HRQ.o.up.d4.put3 Y1.o (noI_q _ _ _ _ _ _ _) (.bool b4) (.slice A4 n4 c4) (.slice B4 m4 d4');have hs2:=HRQ.o.down.put3 Y1.o (noI_q _ _ _ _ _ _ _) (.bool b4) (.slice A4 n4 c4) (.slice B4 m4 d4');have hb5:=below_set (below_set (below_set HBF.o (w.heap.size+1) 0 (by omega) (.bool b4)) (w.heap.size+1) 1 (by omega) (.slice A4 n4 c4)) (w.heap.size+1) 2 (by omega) (.slice B4 m4 d4');obtain ⟨r0,r1,r2⟩:=hf.c3;generalize (((w4.setCell ⟨w.heap.size+1,0,none⟩ (.bool b4)).setCell ⟨w.heap.size+1,1,none⟩ (.slice A4 n4 c4)).setCell ⟨w.heap.size+1,2,none⟩ (.slice B4 m4 d4'))=wf at *
  refine bodyPost_ret (v:=.tuple #[.agg #[.bool b4,.slice A4 n4 c4,.slice B4 m4 d4'],.bool true]) (by simp [results,Tryz.results105,go_sem,r0,r1,r2];try rfl) rfl ?_;rw [HL.o.1,HL.o.2];exact ⟨⟨_,_,_,_,_,_,_,_,_,rfl,⟨⟨HRQ.o.up.sign,hs⟩,hs2⟩,Low.int _⟩,hb5⟩
 by_cases c119:l=119
 case pos =>
  have e110:((l:Int) == 110)=false:=by rw [beq_eq_false_iff_ne];omega
  have e105:((l:Int) == 105)=false:=by rw [beq_eq_false_iff_ne];omega
  have e118:((l:Int) == 118)=false:=by rw [beq_eq_false_iff_ne];omega
  have e119:((l:Int) == 119)=true:=by rw [beq_iff_eq];omega
  have HL:Hid (ofVal k S l=(s2,1)∧decide (l ∈ letters.map UInt8.toNat)=true):=⟨by rw [HOF.o,c119];rfl,by rw [c119];rfl⟩;clear c110 c105 c118 c119;go_wp2_with fail;refine (ref_QInt wx s2 (by omega)).mono ?_;rintro e w4 ⟨⟨b4,A4,n4,c4,B4,m4,d4',rfl,hr4⟩,hb4⟩;have hbc:Below wx.heap.size wx w4:=hb4;have y1:=X1.o.below hbc X1.o.lt;have Y1:=qh y1;have HRQ:=qh (hr4);have HBF:=qt HBX hbc;obtain ⟨q0,q1,q2,f0,f1,f2⟩:=y1.cf3;clear hbc y1;dsimp only;go_wp2_with fail;have hf:=((Y1.o.put 0 (.bool b4)).put 1 (.slice A4 n4 c4)).put 2 (.slice B4 m4 d4');simp only [M0,M1] at hf;have hs:=HRQ.o.up.d4.put3 Y1.o (noI_q _ _ _ _ _ _ _) (.bool b4) (.slice A4 n4 c4) (.slice B4 m4 d4');have hs2:=HRQ.o.down.put3 Y1.o (noI_q _ _ _ _ _ _ _) (.bool b4) (.slice A4 n4 c4) (.slice B4 m4 d4');have hb5:=below_set (below_set (below_set HBF.o (w.heap.size+1) 0 (by omega) (.bool b4)) (w.heap.size+1) 1 (by omega) (.slice A4 n4 c4)) (w.heap.size+1) 2 (by omega) (.slice B4 m4 d4');obtain ⟨r0,r1,r2⟩:=hf.c3;generalize (((w4.setCell ⟨w.heap.size+1,0,none⟩ (.bool b4)).setCell ⟨w.heap.size+1,1,none⟩ (.slice A4 n4 c4)).setCell ⟨w.heap.size+1,2,none⟩ (.slice B4 m4 d4'))=wf at *
  refine bodyPost_ret (v:=.tuple #[.agg #[.bool b4,.slice A4 n4 c4,.slice B4 m4 d4'],.bool true]) (by simp [results,Tryz.results105,go_sem,r0,r1,r2];try rfl) rfl ?_;rw [HL.o.1,HL.o.2];exact ⟨⟨_,_,_,_,_,_,_,_,_,rfl,⟨⟨HRQ.o.up.sign,hs⟩,hs2⟩,Low.int _⟩,hb5⟩
 by_cases c102:l=102
 case pos =>
  have e110:((l:Int) == 110)=false:=by rw [beq_eq_false_iff_ne];omega
  have e105:((l:Int) == 105)=false:=by rw [beq_eq_false_iff_ne];omega
  have e118:((l:Int) == 118)=false:=by rw [beq_eq_false_iff_ne];omega
  have e119:((l:Int) == 119)=false:=by rw [beq_eq_false_iff_ne];omega
  have e102:((l:Int) == 102)=true:=by rw [beq_iff_eq];omega
  have HL:Hid (ofVal k S l=(k % 10 ^ S,1)∧decide (l ∈ letters.map UInt8.toNat)=true):=⟨by rw [HOF.o,c102];rfl,by rw [c102];rfl⟩;clear c110 c105 c118 c119 c102;have hdv:dv (48 :: padD S k)=k % 10 ^ S:=by rw [dv_zero,dv_padD]
  have HDV:=qh hdv;have hpl:=padD_len S k;go_wp2_with fail;refine (ref_DPart0 wx A n c k S b HX.o L1.o (by omega)).mono ?_;rintro e w3 ⟨rfl,hb3⟩;have hst:(⟨#[48]⟩:ByteArray) ++ ⟨(padD S k).toArray⟩=⟨(48 :: padD S k).toArray⟩:=by apply ByteArray.ext;simp
  have HPD:=qh (padD_dig S k);have hpl2:(padD S k).length≤1000:=by omega
  generalize padD S k=t at *
  clear hdv hpl;dsimp only;go_wp2_with fail
  try rw [hst]
  refine (ref_Parse w3 (48 :: t) HPD.o (by simp) (by simp;omega)).mono ?_;rw [HDV.o];rintro e w5 ⟨⟨A5,n5,c5,rfl,hd5⟩,hb5⟩;have HD5:=qh hd5;have HB5:=qh (hb3.trans (hb5.mono hb3.size));clear hd5 hb5 hb3 hst hpl2;dsimp only;go_wp2_with fail;refine (ref_whole w5 A5 n5 c5 _ HD5.o).mono ?_;rintro e w4 ⟨⟨b4,A4,n4,c4,B4,m4,d4',rfl,hr4⟩,hb4⟩;have hbc:Below wx.heap.size wx w4:=HB5.o.trans (hb4.mono HB5.o.size);have y1:=X1.o.below hbc X1.o.lt;have Y1:=qh y1;have HRQ:=qh (hr4);have HBF:=qt HBX hbc;obtain ⟨q0,q1,q2,f0,f1,f2⟩:=y1.cf3;clear hbc y1;dsimp only;go_wp2_with fail;have hf:=((Y1.o.put 0 (.bool b4)).put 1 (.slice A4 n4 c4)).put 2 (.slice B4 m4 d4');simp only [M0,M1] at hf;have hs:=HRQ.o.up.d4.put3 Y1.o (noI_q _ _ _ _ _ _ _) (.bool b4) (.slice A4 n4 c4) (.slice B4 m4 d4');have hs2:=HRQ.o.down.put3 Y1.o (noI_q _ _ _ _ _ _ _) (.bool b4) (.slice A4 n4 c4) (.slice B4 m4 d4');have hb5:=below_set (below_set (below_set HBF.o (w.heap.size+1) 0 (by omega) (.bool b4)) (w.heap.size+1) 1 (by omega) (.slice A4 n4 c4)) (w.heap.size+1) 2 (by omega) (.slice B4 m4 d4');obtain ⟨r0,r1,r2⟩:=hf.c3;generalize (((w4.setCell ⟨w.heap.size+1,0,none⟩ (.bool b4)).setCell ⟨w.heap.size+1,1,none⟩ (.slice A4 n4 c4)).setCell ⟨w.heap.size+1,2,none⟩ (.slice B4 m4 d4'))=wf at *
  refine bodyPost_ret (v:=.tuple #[.agg #[.bool b4,.slice A4 n4 c4,.slice B4 m4 d4'],.bool true]) (by simp [results,Tryz.results105,go_sem,r0,r1,r2];try rfl) rfl ?_;rw [HL.o.1,HL.o.2];exact ⟨⟨_,_,_,_,_,_,_,_,_,rfl,⟨⟨HRQ.o.up.sign,hs⟩,hs2⟩,Low.int _⟩,hb5⟩
 by_cases c116:l=116
 case pos =>
  have e110:((l:Int) == 110)=false:=by rw [beq_eq_false_iff_ne];omega
  have e105:((l:Int) == 105)=false:=by rw [beq_eq_false_iff_ne];omega
  have e118:((l:Int) == 118)=false:=by rw [beq_eq_false_iff_ne];omega
  have e119:((l:Int) == 119)=false:=by rw [beq_eq_false_iff_ne];omega
  have e102:((l:Int) == 102)=false:=by rw [beq_eq_false_iff_ne];omega
  have e116:((l:Int) == 116)=true:=by rw [beq_iff_eq];omega
  have HL:Hid (ofVal k S l=(k2 % 10 ^ s2,1)∧decide (l ∈ letters.map UInt8.toNat)=true):=⟨by rw [HOF.o,c116];rfl,by rw [c116];rfl⟩;clear c110 c105 c118 c119 c102 c116;have hdv:dv (48 :: padD s2 k2)=k2 % 10 ^ s2:=by rw [dv_zero,dv_padD]
  have HDV:=qh hdv;have hpl:=padD_len s2 k2;go_wp2_with fail;refine (ref_DPart0 wx A2 n2 c2 k2 s2 false HD.o L2.o (by omega)).mono ?_;rintro e w3 ⟨rfl,hb3⟩;have hst:(⟨#[48]⟩:ByteArray) ++ ⟨(padD s2 k2).toArray⟩=⟨(48 :: padD s2 k2).toArray⟩:=by apply ByteArray.ext;simp
  have HPD:=qh (padD_dig s2 k2);have hpl2:(padD s2 k2).length≤1000:=by omega
  generalize padD s2 k2=t at *
  clear hdv hpl;dsimp only;go_wp2_with fail
  try rw [hst]
  refine (ref_Parse w3 (48 :: t) HPD.o (by simp) (by simp;omega)).mono ?_;rw [HDV.o];rintro e w5 ⟨⟨A5,n5,c5,rfl,hd5⟩,hb5⟩;have HD5:=qh hd5;have HB5:=qh (hb3.trans (hb5.mono hb3.size));clear hd5 hb5 hb3 hst hpl2;dsimp only;go_wp2_with fail;refine (ref_whole w5 A5 n5 c5 _ HD5.o).mono ?_;rintro e w4 ⟨⟨b4,A4,n4,c4,B4,m4,d4',rfl,hr4⟩,hb4⟩;have hbc:Below wx.heap.size wx w4:=HB5.o.trans (hb4.mono HB5.o.size);have y1:=X1.o.below hbc X1.o.lt;have Y1:=qh y1;have HRQ:=qh (hr4);have HBF:=qt HBX hbc;obtain ⟨q0,q1,q2,f0,f1,f2⟩:=y1.cf3;clear hbc y1;dsimp only;go_wp2_with fail;have hf:=((Y1.o.put 0 (.bool b4)).put 1 (.slice A4 n4 c4)).put 2 (.slice B4 m4 d4');simp only [M0,M1] at hf;have hs:=HRQ.o.up.d4.put3 Y1.o (noI_q _ _ _ _ _ _ _) (.bool b4) (.slice A4 n4 c4) (.slice B4 m4 d4');have hs2:=HRQ.o.down.put3 Y1.o (noI_q _ _ _ _ _ _ _) (.bool b4) (.slice A4 n4 c4) (.slice B4 m4 d4');have hb5:=below_set (below_set (below_set HBF.o (w.heap.size+1) 0 (by omega) (.bool b4)) (w.heap.size+1) 1 (by omega) (.slice A4 n4 c4)) (w.heap.size+1) 2 (by omega) (.slice B4 m4 d4');obtain ⟨r0,r1,r2⟩:=hf.c3;generalize (((w4.setCell ⟨w.heap.size+1,0,none⟩ (.bool b4)).setCell ⟨w.heap.size+1,1,none⟩ (.slice A4 n4 c4)).setCell ⟨w.heap.size+1,2,none⟩ (.slice B4 m4 d4'))=wf at *
  refine bodyPost_ret (v:=.tuple #[.agg #[.bool b4,.slice A4 n4 c4,.slice B4 m4 d4'],.bool true]) (by simp [results,Tryz.results105,go_sem,r0,r1,r2];try rfl) rfl ?_;rw [HL.o.1,HL.o.2];exact ⟨⟨_,_,_,_,_,_,_,_,_,rfl,⟨⟨HRQ.o.up.sign,hs⟩,hs2⟩,Low.int _⟩,hb5⟩
 by_cases c101:l=101
 case pos =>
  have e110:((l:Int) == 110)=false:=by rw [beq_eq_false_iff_ne];omega
  have e105:((l:Int) == 105)=false:=by rw [beq_eq_false_iff_ne];omega
  have e118:((l:Int) == 118)=false:=by rw [beq_eq_false_iff_ne];omega
  have e119:((l:Int) == 119)=false:=by rw [beq_eq_false_iff_ne];omega
  have e102:((l:Int) == 102)=false:=by rw [beq_eq_false_iff_ne];omega
  have e116:((l:Int) == 116)=false:=by rw [beq_eq_false_iff_ne];omega
  have e101:((l:Int) == 101)=true:=by rw [beq_iff_eq];omega
  have HL:Hid (ofVal k S l=(0,1)∧decide (l ∈ letters.map UInt8.toNat)=true):=⟨by rw [HOF.o,c101];rfl,by rw [c101];rfl⟩;clear c110 c105 c118 c119 c102 c116 c101;go_wp2_with fail;refine (ref_QInt wx 0 (by omega)).mono ?_;rintro e w4 ⟨⟨b4,A4,n4,c4,B4,m4,d4',rfl,hr4⟩,hb4⟩;have hbc:Below wx.heap.size wx w4:=hb4;have y1:=X1.o.below hbc X1.o.lt;have Y1:=qh y1;have HRQ:=qh (hr4);have HBF:=qt HBX hbc;obtain ⟨q0,q1,q2,f0,f1,f2⟩:=y1.cf3;clear hbc y1;dsimp only;go_wp2_with fail;have hf:=((Y1.o.put 0 (.bool b4)).put 1 (.slice A4 n4 c4)).put 2 (.slice B4 m4 d4');simp only [M0,M1] at hf;have hs:=HRQ.o.up.d4.put3 Y1.o (noI_q _ _ _ _ _ _ _) (.bool b4) (.slice A4 n4 c4) (.slice B4 m4 d4');have hs2:=HRQ.o.down.put3 Y1.o (noI_q _ _ _ _ _ _ _) (.bool b4) (.slice A4 n4 c4) (.slice B4 m4 d4');have hb5:=below_set (below_set (below_set HBF.o (w.heap.size+1) 0 (by omega) (.bool b4)) (w.heap.size+1) 1 (by omega) (.slice A4 n4 c4)) (w.heap.size+1) 2 (by omega) (.slice B4 m4 d4');obtain ⟨r0,r1,r2⟩:=hf.c3;generalize (((w4.setCell ⟨w.heap.size+1,0,none⟩ (.bool b4)).setCell ⟨w.heap.size+1,1,none⟩ (.slice A4 n4 c4)).setCell ⟨w.heap.size+1,2,none⟩ (.slice B4 m4 d4'))=wf at *
  refine bodyPost_ret (v:=.tuple #[.agg #[.bool b4,.slice A4 n4 c4,.slice B4 m4 d4'],.bool true]) (by simp [results,Tryz.results105,go_sem,r0,r1,r2];try rfl) rfl ?_;rw [HL.o.1,HL.o.2];exact ⟨⟨_,_,_,_,_,_,_,_,_,rfl,⟨⟨HRQ.o.up.sign,hs⟩,hs2⟩,Low.int _⟩,hb5⟩
 have e110:((l:Int) == 110)=false:=by rw [beq_eq_false_iff_ne];omega
 have e105:((l:Int) == 105)=false:=by rw [beq_eq_false_iff_ne];omega
 have e118:((l:Int) == 118)=false:=by rw [beq_eq_false_iff_ne];omega
 have e119:((l:Int) == 119)=false:=by rw [beq_eq_false_iff_ne];omega
 have e102:((l:Int) == 102)=false:=by rw [beq_eq_false_iff_ne];omega
 have e116:((l:Int) == 116)=false:=by rw [beq_eq_false_iff_ne];omega
 have e101:((l:Int) == 101)=false:=by rw [beq_eq_false_iff_ne];omega
 have HL:Hid (ofVal k S l=(0,1)∧decide (l ∈ letters.map UInt8.toNat)=false):=⟨by rw [HOF.o];simp [opVal,c110,c105,c118,c119,c102,c116],decide_eq_false (by simp [letters,c110,c105,c118,c119,c102,c116,c101])⟩;clear c110 c105 c118 c119 c102 c116 c101;go_wp2_with fail;refine (ref_QInt wx 0 (by omega)).mono ?_;rintro e w4 ⟨⟨b4,A4,n4,c4,B4,m4,d4',rfl,hr4⟩,hb4⟩;have hbc:Below wx.heap.size wx w4:=hb4;have y1:=X1.o.below hbc X1.o.lt;have Y1:=qh y1;have HRQ:=qh (hr4);have HBF:=qt HBX hbc;obtain ⟨q0,q1,q2,f0,f1,f2⟩:=y1.cf3;clear hbc y1;dsimp only;go_wp2_with fail;have hf:=((Y1.o.put 0 (.bool b4)).put 1 (.slice A4 n4 c4)).put 2 (.slice B4 m4 d4');simp only [M0,M1] at hf;have hs:=HRQ.o.up.d4.put3 Y1.o (noI_q _ _ _ _ _ _ _) (.bool b4) (.slice A4 n4 c4) (.slice B4 m4 d4');have hs2:=HRQ.o.down.put3 Y1.o (noI_q _ _ _ _ _ _ _) (.bool b4) (.slice A4 n4 c4) (.slice B4 m4 d4');have hb5:=below_set (below_set (below_set HBF.o (w.heap.size+1) 0 (by omega) (.bool b4)) (w.heap.size+1) 1 (by omega) (.slice A4 n4 c4)) (w.heap.size+1) 2 (by omega) (.slice B4 m4 d4');obtain ⟨r0,r1,r2⟩:=hf.c3;generalize (((w4.setCell ⟨w.heap.size+1,0,none⟩ (.bool b4)).setCell ⟨w.heap.size+1,1,none⟩ (.slice A4 n4 c4)).setCell ⟨w.heap.size+1,2,none⟩ (.slice B4 m4 d4'))=wf at *
 refine bodyPost_ret (v:=.tuple #[.agg #[.bool b4,.slice A4 n4 c4,.slice B4 m4 d4'],.bool false]) (by simp [results,Tryz.results105,go_sem,r0,r1,r2];try rfl) rfl ?_;rw [HL.o.1,HL.o.2];exact ⟨⟨_,_,_,_,_,_,_,_,_,rfl,⟨⟨HRQ.o.up.sign,hs⟩,hs2⟩,Low.int _⟩,hb5⟩
end Go.Proofs.YtdgleeglndcjhaaGreatDoor
namespace Go
variable {P:Program} {Q:Exit→Act→World→Prop} {S:World→Prop}
theorem wpAnyH_of_any {md:Region.Mode} {ops:Array Oper}:∀ (fuel:Nat) (listed:Array Bool) (a:Act) (w:World),wpAny P md ops Q fuel listed a w→wpAnyH P md ops Q (fun _=>True) fuel listed a w
 | 0,_,_,_,h=>h
 | fuel+1,_,_,_,h=>⟨h.1,fun i hi=>wpOp_mono (fun a' w' h'=>⟨trivial,wpAnyH_of_any fuel _ a' w' h'⟩) (h.2 i hi)⟩
theorem replicate_up (n:Nat):Array.replicate (n+1) false=(Array.replicate n false).push false:=by rw [Array.replicate_succ]
theorem wp_region_three {id:Nat} {init:List Oper} {o1 o2 o3:Oper} {full:Array Oper} {a:Act} {w:World} (S:World→Prop) (hm:P.follows .mixedOrders=true) (hf:full=(init ++ [o1,o2,o3]).toArray)
  (h1:lastOk init.toArray o1=true) (h2:lastOk (init.toArray.push o1) o2=true) (h3:lastOk ((init.toArray.push o1).push o2) o3=true) (hS:S w.drew)
  (h:S w.drew→wpAnyH P .any init.toArray (TailQ P o1 (TailQ P o2 (TailQ P o3 Q))) S init.toArray.size (Array.replicate init.toArray.size false) a w.drew):(Code.region id full true).wp P Q a w:=by
 subst hf;refine wp_region_any hm ?_;have k1:=wpAny_tail (LastOk.of h1) _ _ a w.drew closed_start (h hS);rw [← replicate_up] at k1
 have k2:=wpAny_tail (LastOk.of h2) _ _ a w.drew (by
  have:=closed_start (ops:=init.toArray.push o1)
  rw [Array.size_push] at this;exact this) (wpAnyH_of_any _ _ _ _ k1)
 rw [← replicate_up] at k2
 have k3:=wpAny_tail (LastOk.of h3) _ _ a w.drew (by
  have:=closed_start (ops:=(init.toArray.push o1).push o2)
  rw [Array.size_push,Array.size_push] at this;exact this) (wpAnyH_of_any _ _ _ _ k2)
 rw [← replicate_up] at k3;have e:((init.toArray.push o1).push o2).push o3=(init ++ [o1,o2,o3]).toArray:=by simp
 rw [e] at k3;have e2:(init ++ [o1,o2,o3]).toArray.size=init.toArray.size+1+1+1:=by simp
 rw [e2];exact k3
end Go
