import Derived.Test.YtdgleeglndcjhaaGreatDoorX29
import Derived.Test.YtdgleeglndcjhaaGreatDoorX24
set_option linter.unusedSimpArgs false
set_option linter.unusedVariables false
set_option maxHeartbeats 8000000
set_option maxRecDepth 100000
namespace Go.Proofs.YtdgleeglndcjhaaGreatDoor
open Go.RowKit
theorem ref_QSign (w:World) (b:Bool) (A:Option Addr) (n c:Nat) (B:Option Addr) (m d:Nat) (p:Int) (q:Nat) (h:RQ4 w b A n c B m d p q) :
  Calls Tryz.prog 176 #[.agg #[.bool b,.slice A n c,.slice B m d]] w fun e w'=>e=.returned (.int .i64 p.sign)∧Below w.heap.size w w':=by
 have HX:=qh h;clear h;obtain ⟨z,hz⟩:∃ z,p.sign=z:=⟨_,rfl⟩;rw [hz];have HZ:=qh hz;clear hz;go_enter Tryz.func176,Tryz.ntmps176;go_wp2_with fail;refine calls_letter (fun w1=>Below w.heap.size w w1) ((Below.refl _ _).alloc ql _) ?_;intro w1 hb;have HB:=qh hb;clear hb;refine (ref_ZSign w1 b A n c p (HX.o.up.below HB.o ql)).mono ?_;rw [HZ.o];rintro e w2 ⟨rfl,hb2⟩;have HB2:Hid (Below w.heap.size w w2):=HB.o.trans (hb2.mono HB.o.size);clear hb2;dsimp only;go_wp2_with fail;go_ret
 exact ⟨rfl,HB2.o⟩
theorem ref_QNeg (w:World) (b:Bool) (A:Option Addr) (n c:Nat) (B:Option Addr) (m d:Nat) (p:Int) (q:Nat) (h:RQ4 w b A n c B m d p q) :
  Calls Tryz.prog 113 #[.agg #[.bool b,.slice A n c,.slice B m d]] w fun e w'=>RetQ4 e w' (-p) q∧Below w.heap.size w w':=by
 have HX:=qh h;clear h;go_enter Tryz.func113,Tryz.ntmps113;go_upto_region 1 with fail;refine wp_letter (fun w1=>Blk w1 w.heap.size 173 [.bool b,.slice A n c,.slice B m d]∧Blk w1 (w.heap.size+1) 173 [.bool false,.slice none 0 0,.slice none 0 0]∧Below w.heap.size w w1) ⟨((Blk.made _ 173 _ _ _ (by simp) rfl).alloc _),(Blk.made _ 173 _ _ _ (by simp) rfl),((Below.refl _ _).alloc ql _).alloc (by simp) _⟩ ?_;rintro w1 ⟨b0,b1,hb⟩;obtain ⟨k00,k01,k02⟩:=b0.c3;obtain ⟨k10,k11,k12⟩:=b1.c3;have HB:=qh hb;have K0:=qh b0;have K1:=qh b1;have hz:=b1.lt;clear hb b0 b1;have HX1:Hid (RQ4 w1 b A n c B m d p q):=HX.o.below HB.o ql;have HKK:Hid (∀ w',Hold w1 (w.heap.size+1) 173 3 w'→w'.cell? ⟨w.heap.size,0,none⟩=some (.bool b)∧w'.cell? ⟨w.heap.size,1,none⟩=some (.slice A n c)∧w'.cell? ⟨w.heap.size,2,none⟩=some (.slice B m d)∧w'.cell? ⟨w.heap.size+1,0,none⟩=some (cellAt w' ⟨w.heap.size+1,0,none⟩)∧w'.cell? ⟨w.heap.size+1,1,none⟩=some (cellAt w' ⟨w.heap.size+1,1,none⟩)∧w'.cell? ⟨w.heap.size+1,2,none⟩=some (cellAt w' ⟨w.heap.size+1,2,none⟩)∧w'.frozen? ⟨w.heap.size+1,0,none⟩=false∧w'.frozen? ⟨w.heap.size+1,1,none⟩=false∧w'.frozen? ⟨w.heap.size+1,2,none⟩=false∧Hold w1 (w.heap.size+1) 173 3 w'):=fun w' h=>⟨(h.blk K0.o (by omega)).cell 0,(h.blk K0.o (by omega)).cell 1,(h.blk K0.o (by omega)).cell 2,h.cell 0 (by omega),h.cell 1 (by omega),h.cell 2 (by omega),h.frozen 0,h.frozen 1,h.frozen 2,h⟩;have HSt:Hid (Hold w1 (w.heap.size+1) 173 3 w1):=Hold.start K1.o (by simp [No32])
 go_region_held3 (fun w'=>w'.cell? ⟨w.heap.size,0,none⟩=some (.bool b)∧w'.cell? ⟨w.heap.size,1,none⟩=some (.slice A n c)∧w'.cell? ⟨w.heap.size,2,none⟩=some (.slice B m d)∧w'.cell? ⟨w.heap.size+1,0,none⟩=some (cellAt w' ⟨w.heap.size+1,0,none⟩)∧w'.cell? ⟨w.heap.size+1,1,none⟩=some (cellAt w' ⟨w.heap.size+1,1,none⟩)∧w'.cell? ⟨w.heap.size+1,2,none⟩=some (cellAt w' ⟨w.heap.size+1,2,none⟩)∧w'.frozen? ⟨w.heap.size+1,0,none⟩=false∧w'.frozen? ⟨w.heap.size+1,1,none⟩=false∧w'.frozen? ⟨w.heap.size+1,2,none⟩=false∧Hold w1 (w.heap.size+1) 173 3 w')
  (first|exact HKK.o _ HSt.o.drew|(go_split_ands;first|exact HKK.o _ (Hold.call ‹Hold w1 (w.heap.size+1) 173 3 _› hb2)|exact HKK.o _ (((‹Hold w1 (w.heap.size+1) 173 3 _›.set 0 _ (by simp)).set 1 _ (by simp)).set 2 _ (by simp))))
  (first|((with_reducible refine (ref_ZNeg _ b A n c p ?_).mono ?_);(refine ⟨HX1.o.up.sign,D4.hold (W:=w1) (g:=w.heap.size+1) (t:=173) (n:=3) ?_ K1.o (noI_q _ _ _ _ _ _ _) HX1.o.up.d4⟩;(go_split_ands;assumption));rintro e w2 ⟨⟨b2,A2,n2,c2,rfl,hr2⟩,hb2⟩))
 have hh:=(HSt.o.drew.call hb2);have hg:=(((hh.set 0 (.bool b2) (by simp)).set 1 (.slice A2 n2 c2) (by simp)).set 2 (.slice B m d) (by simp));have hB3:Blk w2 (w.heap.size+1) 173 [.bool false,.slice none 0 0,.slice none 0 0]:=(K1.o.below ((Below.refl w1.heap.size w1).drew) K1.o.lt).below hb2 K1.o.lt;have hf:=((hB3.put 0 (.bool b2)).put 1 (.slice A2 n2 c2)).put 2 (.slice B m d);simp only [M0,M1] at hf;have hs:=hr2.d4.put3 hB3 (noI_q _ _ _ _ _ _ _) (.bool b2) (.slice A2 n2 c2) (.slice B m d);have hq:D4 w2 B m d q:=(HX1.o.down.below ((Below.refl w1.heap.size w1).drew) ql).below hb2 ql;have hs2:=hq.put3 hB3 (noI_q _ _ _ _ _ _ _) (.bool b2) (.slice A2 n2 c2) (.slice B m d);obtain ⟨r0,r1,r2⟩:=hf.c3;generalize (((w2.setCell ⟨w.heap.size+1,0,none⟩ (.bool b2)).setCell ⟨w.heap.size+1,1,none⟩ (.slice A2 n2 c2)).setCell ⟨w.heap.size+1,2,none⟩ (.slice B m d))=wf at *
 go_wp2
 refine bodyPost_ret (v:=.agg #[.bool b2,.slice A2 n2 c2,.slice B m d]) (by simp [results,Tryz.results113,go_sem,r0,r1,r2];try rfl) rfl ?_;exact ⟨⟨_,_,_,_,_,_,_,rfl,⟨⟨hr2.sign,hs⟩,hs2⟩⟩,HB.o.trans (hg.below (by omega))⟩
theorem ref_QInv (w:World) (b:Bool) (A:Option Addr) (n c:Nat) (B:Option Addr) (m d:Nat) (p:Int) (q:Nat) (h:RQ4 w b A n c B m d p q) :
  Calls Tryz.prog 111 #[.agg #[.bool b,.slice A n c,.slice B m d]] w fun e w'=>RetQ4 e w' (signed b q) p.natAbs∧Below w.heap.size w w':=by
 have HX:=qh h;clear h;go_enter Tryz.func111,Tryz.ntmps111;go_upto_region 1 with fail;refine wp_letter (fun w1=>Blk w1 w.heap.size 173 [.bool b,.slice A n c,.slice B m d]∧Blk w1 (w.heap.size+1) 173 [.bool false,.slice none 0 0,.slice none 0 0]∧Below w.heap.size w w1) ⟨((Blk.made _ 173 _ _ _ (by simp) rfl).alloc _),(Blk.made _ 173 _ _ _ (by simp) rfl),((Below.refl _ _).alloc ql _).alloc (by simp) _⟩ ?_;rintro w1 ⟨b0,b1,hb⟩;obtain ⟨k00,k01,k02⟩:=b0.c3;obtain ⟨k10,k11,k12⟩:=b1.c3;have HB:=qh hb;have K0:=qh b0;have K1:=qh b1;have hz:=b1.lt;clear hb b0 b1;have HX1:Hid (RQ4 w1 b A n c B m d p q):=HX.o.below HB.o ql;have HKK:Hid (∀ w',Hold w1 (w.heap.size+1) 173 3 w'→w'.cell? ⟨w.heap.size,0,none⟩=some (.bool b)∧w'.cell? ⟨w.heap.size,1,none⟩=some (.slice A n c)∧w'.cell? ⟨w.heap.size,2,none⟩=some (.slice B m d)∧w'.cell? ⟨w.heap.size+1,0,none⟩=some (cellAt w' ⟨w.heap.size+1,0,none⟩)∧w'.cell? ⟨w.heap.size+1,1,none⟩=some (cellAt w' ⟨w.heap.size+1,1,none⟩)∧w'.cell? ⟨w.heap.size+1,2,none⟩=some (cellAt w' ⟨w.heap.size+1,2,none⟩)∧w'.frozen? ⟨w.heap.size+1,0,none⟩=false∧w'.frozen? ⟨w.heap.size+1,1,none⟩=false∧w'.frozen? ⟨w.heap.size+1,2,none⟩=false∧Hold w1 (w.heap.size+1) 173 3 w'):=fun w' h=>⟨(h.blk K0.o (by omega)).cell 0,(h.blk K0.o (by omega)).cell 1,(h.blk K0.o (by omega)).cell 2,h.cell 0 (by omega),h.cell 1 (by omega),h.cell 2 (by omega),h.frozen 0,h.frozen 1,h.frozen 2,h⟩;have HSt:Hid (Hold w1 (w.heap.size+1) 173 3 w1):=Hold.start K1.o (by simp [No32])
 go_region_held3 (fun w'=>w'.cell? ⟨w.heap.size,0,none⟩=some (.bool b)∧w'.cell? ⟨w.heap.size,1,none⟩=some (.slice A n c)∧w'.cell? ⟨w.heap.size,2,none⟩=some (.slice B m d)∧w'.cell? ⟨w.heap.size+1,0,none⟩=some (cellAt w' ⟨w.heap.size+1,0,none⟩)∧w'.cell? ⟨w.heap.size+1,1,none⟩=some (cellAt w' ⟨w.heap.size+1,1,none⟩)∧w'.cell? ⟨w.heap.size+1,2,none⟩=some (cellAt w' ⟨w.heap.size+1,2,none⟩)∧w'.frozen? ⟨w.heap.size+1,0,none⟩=false∧w'.frozen? ⟨w.heap.size+1,1,none⟩=false∧w'.frozen? ⟨w.heap.size+1,2,none⟩=false∧Hold w1 (w.heap.size+1) 173 3 w')
  (first|exact HKK.o _ HSt.o.drew|(go_split_ands;first|exact HKK.o _ (Hold.call ‹Hold w1 (w.heap.size+1) 173 3 _› hb2)|exact HKK.o _ (((‹Hold w1 (w.heap.size+1) 173 3 _›.set 0 _ (by simp)).set 1 _ (by simp)).set 2 _ (by simp))))
  (first|((with_reducible refine (ref_ZOf _ b B m d q ?_).mono ?_);(refine D4.hold (W:=w1) (g:=w.heap.size+1) (t:=173) (n:=3) ?_ K1.o (noI_q _ _ _ _ _ _ _) HX1.o.down;(go_split_ands;assumption));rintro e w2 ⟨⟨b2,A2,n2,c2,rfl,hr2⟩,hb2⟩))
 have hh:=(HSt.o.drew.call hb2);have hg:=(((hh.set 0 (.bool b2) (by simp)).set 1 (.slice A2 n2 c2) (by simp)).set 2 (.slice A n c) (by simp));have hB3:Blk w2 (w.heap.size+1) 173 [.bool false,.slice none 0 0,.slice none 0 0]:=(K1.o.below ((Below.refl w1.heap.size w1).drew) K1.o.lt).below hb2 K1.o.lt;have hf:=((hB3.put 0 (.bool b2)).put 1 (.slice A2 n2 c2)).put 2 (.slice A n c);simp only [M0,M1] at hf;have hs:=hr2.d4.put3 hB3 (noI_q _ _ _ _ _ _ _) (.bool b2) (.slice A2 n2 c2) (.slice A n c);have hq:D4 w2 A n c p.natAbs:=(HX1.o.up.d4.below ((Below.refl w1.heap.size w1).drew) ql).below hb2 ql;have hs2:=hq.put3 hB3 (noI_q _ _ _ _ _ _ _) (.bool b2) (.slice A2 n2 c2) (.slice A n c);obtain ⟨r0,r1,r2⟩:=hf.c3;generalize (((w2.setCell ⟨w.heap.size+1,0,none⟩ (.bool b2)).setCell ⟨w.heap.size+1,1,none⟩ (.slice A2 n2 c2)).setCell ⟨w.heap.size+1,2,none⟩ (.slice A n c))=wf at *
 go_wp2
 refine bodyPost_ret (v:=.agg #[.bool b2,.slice A2 n2 c2,.slice A n c]) (by simp [results,Tryz.results111,go_sem,r0,r1,r2];try rfl) rfl ?_;exact ⟨⟨_,_,_,_,_,_,_,rfl,⟨⟨hr2.sign,hs⟩,hs2⟩⟩,HB.o.trans (hg.below (by omega))⟩
theorem ref_QOf (w:World) (b:Bool) (A:Option Addr) (n c:Nat) (B:Option Addr) (m d:Nat) (p:Int) (q:Nat) (h:RZ4 w b A n c p) (h':D4 w B m d q) (hq:0<q) (hl:(d4 p.natAbs).length≤90000) (hl':(d4 q).length≤90000) :
  Calls Tryz.prog 170 #[.agg #[.bool b,.slice A n c],.slice B m d] w fun e w'=>RetQ4 e w' (signed b (p.natAbs / Nat.gcd p.natAbs q)) (q / Nat.gcd p.natAbs q)∧Below w.heap.size w w':=by
 have HX:=qh h;have HY:=qh h';have HQ:=qh hq;have HL:=qh hl;have HL':=qh hl';obtain ⟨g,hg⟩:∃ g,Nat.gcd p.natAbs q=g:=⟨_,rfl⟩;have hg0:g≠0:=by rw [← hg];exact Nat.ne_of_gt (Nat.gcd_pos_of_pos_right _ hq)
 have hgl:(d4 g).length≤90000:=Nat.le_trans (d4_len_le (by rw [← hg];exact Nat.gcd_le_right _ hq)) hl';rw [hg];have HG:=qh hg;have HG0:=qh hg0;have HGL:=qh hgl;clear h h' hq hl hl' hg hg0 hgl;go_enter Tryz.func170,Tryz.ntmps170;go_upto_region 1 with fail;refine wp_letter (fun w1=>Blk w1 w.heap.size 171 [.bool b,.slice A n c]∧Blk w1 (w.heap.size+1) 173 [.bool false,.slice none 0 0,.slice none 0 0]∧Below w.heap.size w w1) ⟨((Blk.made _ 171 _ _ _ (by simp) rfl).alloc _),(Blk.made _ 173 _ _ _ (by simp) rfl),((Below.refl _ _).alloc ql _).alloc (by simp) _⟩ ?_;rintro w1 ⟨b0,b1,hb⟩;obtain ⟨k00,k01⟩:=b0.c2;have HB:=qh hb;have K0:=qh b0;have K1:=qh b1;have hz:=b1.lt;clear hb b0 b1;go_wp2_with fail;refine (ref_Gcd w1 A B n c m d p.natAbs q (HX.o.d4.below HB.o ql) (HY.o.below HB.o ql) HL.o HL'.o).mono ?_;rw [HG.o];rintro e w2 ⟨⟨A2,n2,c2,rfl,hd2⟩,hb2⟩;have HD2:=qh hd2;have HB2:=qh hb2;obtain ⟨-,k02⟩:=(K0.o.below hb2 (by omega)).c2;have hz2:=hb2.size;clear hd2 hb2 k00 k01;dsimp only;go_wp2_with fail;refine (ref_Div w2 A A2 n c n2 c2 p.natAbs g ((HX.o.d4.below HB.o ql).below HB2.o ql) HD2.o HL.o HGL.o HG0.o).mono ?_;rintro e w3 ⟨⟨A3,n3,c3,A4,n4,c4,rfl,hd3,hd4⟩,hb3⟩;have HD3:=qh hd3;have HB3:Hid (Below w1.heap.size w1 w3):=HB2.o.trans (hb3.mono HB2.o.size);have HD2':Hid (D4 w3 A2 n2 c2 g):=HD2.o.below hb3 ql;have hz3:=hb3.size;clear hd3 hd4 hb3 k02 HD2 HB2;dsimp only;go_wp2_with fail;refine (ref_Div w3 B A2 m d n2 c2 q g ((HY.o.below HB.o ql).below HB3.o ql) HD2'.o HL'.o HGL.o HG0.o).mono ?_;rintro e w4 ⟨⟨A5,n5,c5,A6,n6,c6,rfl,hd5,hd6⟩,hb4⟩;have HD5:=qh hd5;have HD3':Hid (D4 w4 A3 n3 c3 (p.natAbs / g)):=HD3.o.below hb4 ql;have HB4:Hid (Below w1.heap.size w1 w4):=HB3.o.trans (hb4.mono HB3.o.size);have k03:=(K0.o.below HB4.o (by omega)).c1;clear hd5 hd6 hb4 HD3 HB3;dsimp only;go_wp2_with fail;refine (ref_ZOf w4 b A3 n3 c3 _ HD3'.o).mono ?_;rintro e w5 ⟨⟨b7,A7,n7,c7,rfl,hr7⟩,hb5⟩;have HR7:=qh hr7;have HD5':Hid (D4 w5 A5 n5 c5 (q / g)):=HD5.o.below hb5 ql;have HB5:Hid (Below w1.heap.size w1 w5):=HB4.o.trans (hb5.mono HB4.o.size);have H3:Hid (Blk w5 (w.heap.size+1) 173 [.bool false,.slice none 0 0,.slice none 0 0]):=K1.o.below HB5.o K1.o.lt;obtain ⟨k0,k1,k2⟩:=H3.o.c3;have f0:=H3.o.frozen 0;have f1:=H3.o.frozen 1;have f2:=H3.o.frozen 2;have HB6:Hid (Below w.heap.size w w5):=HB.o.trans (HB5.o.mono HB.o.size);clear hr7 hb5 k03 HD5 HB4;dsimp only;go_wp2_with fail;have hf:=((H3.o.put 0 (.bool b7)).put 1 (.slice A7 n7 c7)).put 2 (.slice A5 n5 c5);simp only [M0,M1] at hf;have hd:=HR7.o.d4.put3 H3.o (noI_q _ _ _ _ _ _ _) (.bool b7) (.slice A7 n7 c7) (.slice A5 n5 c5);have hd2:=HD5'.o.put3 H3.o (noI_q _ _ _ _ _ _ _) (.bool b7) (.slice A7 n7 c7) (.slice A5 n5 c5);have hb8:Below w.heap.size w (((w5.setCell ⟨w.heap.size+1,0,none⟩ (.bool b7)).setCell ⟨w.heap.size+1,1,none⟩ (.slice A7 n7 c7)).setCell ⟨w.heap.size+1,2,none⟩ (.slice A5 n5 c5)):=((HB6.o.setCell (by simp) _).setCell (by simp) _).setCell (by simp) _;obtain ⟨r0,r1,r2⟩:=hf.c3;generalize (((w5.setCell ⟨w.heap.size+1,0,none⟩ (.bool b7)).setCell ⟨w.heap.size+1,1,none⟩ (.slice A7 n7 c7)).setCell ⟨w.heap.size+1,2,none⟩ (.slice A5 n5 c5))=wf at *
 refine bodyPost_ret (v:=.agg #[.bool b7,.slice A7 n7 c7,.slice A5 n5 c5]) (by simp [results,Tryz.results170,go_sem,r0,r1,r2];try rfl) rfl ?_;exact ⟨⟨_,_,_,_,_,_,_,rfl,⟨⟨HR7.o.sign,hd⟩,hd2⟩⟩,hb8⟩
end Go.Proofs.YtdgleeglndcjhaaGreatDoor
namespace Go.Proofs.YtdgleeglndcjhaaGreatDoor
theorem d4_mul_len (x y:Nat):(d4 (x * y)).length≤(d4 x).length+(d4 y).length :=
 d4_len (by rw [Nat.pow_add];exact Nat.mul_lt_mul'' (d4_lt x) (d4_lt y))
theorem d4_add_len {x y n:Nat} (hx:(d4 x).length≤n) (hy:(d4 y).length≤n):(d4 (x+y)).length≤n+1:=by
 refine d4_len ?_;have h1:=Nat.lt_of_lt_of_le (d4_lt x) (Nat.pow_le_pow_right (by decide) hx);have h2:=Nat.lt_of_lt_of_le (d4_lt y) (Nat.pow_le_pow_right (by decide) hy);rw [Nat.pow_succ];generalize 10000 ^ n=t at *
 omega
theorem d4_zadd_len {x y:Int} {n:Nat} (hx:(d4 x.natAbs).length≤n) (hy:(d4 y.natAbs).length≤n):(d4 (x+y).natAbs).length≤n+1 :=
 Nat.le_trans (d4_len_le (by omega:(x+y).natAbs≤x.natAbs+y.natAbs)) (d4_add_len hx hy)
theorem d4_zmul_len {x y:Int} {n m:Nat} (hx:(d4 x.natAbs).length≤n) (hy:(d4 y.natAbs).length≤m):(d4 (x * y).natAbs).length≤n+m:=by
 rw [Int.natAbs_mul];exact Nat.le_trans (d4_mul_len _ _) (Nat.add_le_add hx hy)
theorem d4_one:(d4 1).length=1:=by rw [d4_pos (by decide)];simp [d4_zero]
structure Low (P:Int) (Q:Nat) (p:Int) (q:Nat):Prop where
 pos:0<q
 cop:Nat.gcd p.natAbs q=1
 eq:p * Q=P * q
theorem low_of {b:Bool} {p:Int} {q:Nat} (hb:b=decide (p<0)) (hq:0<q):Low p q (signed b (p.natAbs / Nat.gcd p.natAbs q)) (q / Nat.gcd p.natAbs q):=by
 have hg:0<Nat.gcd p.natAbs q:=Nat.gcd_pos_of_pos_right _ hq;obtain ⟨x,hx⟩:=Nat.gcd_dvd_left p.natAbs q;obtain ⟨y,hy⟩:=Nat.gcd_dvd_right p.natAbs q;obtain ⟨g,hge⟩:∃ g,Nat.gcd p.natAbs q=g:=⟨_,rfl⟩
 have hc:Nat.gcd x y=1:=by
  have h:=hge;rw [hge] at hx hy;rw [hx,hy,Nat.gcd_mul_left] at h;rw [hge] at hg;exact Nat.eq_of_mul_eq_mul_left hg (by omega)
 rw [hge] at hx hy hg ⊢;have e1:p.natAbs / g=x:=by rw [hx,Nat.mul_div_cancel_left _ hg]
 have e2:q / g=y:=by rw [hy,Nat.mul_div_cancel_left _ hg]
 have e3:=(signed_of hb).1;rw [e1,e2]
 have hy0:0<y:=by
  rcases Nat.eq_zero_or_pos y with h|h
  ·subst h;simp at hy;omega
  ·exact h
 refine ⟨hy0,by rw [(signed_form b x).2];exact hc,?_⟩;rw [← e3,hx,hy];unfold signed;cases b <;> simp <;> grind
theorem Low.le {P:Int} {Q:Nat} {p:Int} {q:Nat} (h:Low P Q p q) (hQ:0<Q):q≤Q∧p.natAbs≤P.natAbs:=by
 have he:p.natAbs * Q=P.natAbs * q:=by
  have:=congrArg Int.natAbs h.eq;simpa [Int.natAbs_mul] using this
 have hc:Nat.Coprime p.natAbs q:=h.cop;have h1:q ∣ Q:=hc.symm.dvd_of_dvd_mul_left (by rw [he];exact ⟨P.natAbs,Nat.mul_comm _ _⟩);have h2:p.natAbs ∣ P.natAbs:=hc.dvd_of_dvd_mul_right (by rw [← he];exact ⟨Q,rfl⟩);refine ⟨Nat.le_of_dvd hQ h1,?_⟩;rcases Nat.eq_zero_or_pos P.natAbs with h0|h0
 ·rw [h0,Nat.zero_mul] at he;rcases Nat.mul_eq_zero.1 he with h|h <;> omega
 ·exact Nat.le_of_dvd h0 h2
theorem Low.sign {P:Int} {Q:Nat} {p:Int} {q:Nat} (h:Low P Q p q) (hQ:0<Q):p.sign=P.sign:=by
 have h1:=congrArg Int.sign h.eq;rw [Int.sign_mul,Int.sign_mul,Int.sign_eq_one_of_pos (a:=(Q:Int)) (by omega),Int.sign_eq_one_of_pos (a:=(q:Int)) (by have:=h.pos;omega)] at h1;simpa using h1
theorem Low.same {P P':Int} {Q Q':Nat} {p:Int} {q:Nat} (h:Low P Q p q) (hQ:0<Q) (he:P * Q'=P' * Q):Low P' Q' p q:=by
 refine ⟨h.pos,h.cop,?_⟩;have h1:=h.eq;have h2:(Q:Int)≠0:=by omega
 refine Int.eq_of_mul_eq_mul_right h2 ?_;grind
theorem Low.int (p:Int):Low p 1 p 1:=⟨by decide,Nat.gcd_one_right _,rfl⟩
theorem Low.one {P:Nat} {Q q:Nat} {p:Int} (h:Low (P:Int) Q p q) (hQ:0<Q):(q=1)↔P % Q=0:=by
 have hn:0≤p:=by
  have:=h.sign hQ;by_cases h0:p<0
  ·rw [Int.sign_eq_neg_one_of_neg h0] at this
   have:(0:Int)≤(P:Int).sign:=by
    rcases Nat.eq_zero_or_pos P with h|h
    ·subst h;decide
    ·rw [Int.sign_eq_one_of_pos (by omega)];decide
   omega
  ·omega
 obtain ⟨k,rfl⟩:=Int.eq_ofNat_of_zero_le hn;have he:k * Q=P * q:=by have:=h.eq;exact_mod_cast this
 constructor
 ·rintro rfl;rw [Nat.mul_one] at he;rw [← he];exact Nat.mul_mod_left _ _
 ·intro hm;obtain ⟨t,rfl⟩:=Nat.dvd_of_mod_eq_zero hm
  have h1:k=t * q:=by
   refine Nat.eq_of_mul_eq_mul_right hQ ?_;rw [he];grind
  have h2:=h.cop;simp only [Int.natAbs_natCast,h1] at h2;rw [Nat.gcd_mul_left_left] at h2;exact h2
theorem Low.val {P Q q:Nat} {p:Int} (h:Low (P:Int) Q p q) (hQ:0<Q):∃ k:Nat,p=k∧k * Q=P * q:=by
 have hn:0≤p:=by
  by_cases h0:p<0
  ·exfalso;have h1:=h.eq;have h2:p * (Q:Int)<0:=Int.mul_neg_of_neg_of_pos h0 (by omega);have h3:(0:Int)≤(P:Int) * (q:Int):=by exact_mod_cast Nat.zero_le (P * q)
   omega
  ·omega
 obtain ⟨k,rfl⟩:=Int.eq_ofNat_of_zero_le hn;exact ⟨k,rfl,by have:=h.eq;exact_mod_cast this⟩
theorem Low.of_int {X p:Int} {q:Nat} (h:Low X 1 p q):q=1∧p=X:=by
 have h1:p=X * q:=by have:=h.eq;simpa using this
 have h2:q ∣ p.natAbs:=by rw [h1,Int.natAbs_mul];exact ⟨X.natAbs,by simp [Nat.mul_comm]⟩
 have h3:=h.cop;rw [Nat.gcd_eq_right h2] at h3;subst h3;exact ⟨rfl,by rw [h1];simp⟩
theorem mod_scale {k q P Q m:Nat} (hq:0<q) (hQ:0<Q) (h:k * Q=P * q):(k % (q * m)) * Q=(P % (Q * m)) * q:=by
 have e1:(k % (q * m)) * Q=(k * Q) % (q * m * Q):=(Nat.mul_mod_mul_right Q k (q * m)).symm;have e2:(P % (Q * m)) * q=(P * q) % (Q * m * q):=(Nat.mul_mod_mul_right q P (Q * m)).symm;rw [e1,e2,h]
 congr 1
 grind
theorem low_mod {P Q m q q1 q3:Nat} {p p1 p3:Int} (hQ:0<Q) (hm:0<m) (h:Low (P:Int) Q p q) (h1:Low (p * 1) (q * m) p1 q1) (h3:Low (p * ((1:Nat):Int)+-((m:Int) * (p1 / (q1:Int))) * (q:Int)) (q * 1) p3 q3):Low ((P % (Q * m):Nat):Int) Q p3 q3:=by
 obtain ⟨k,rfl,hk⟩:=h.val hQ;have hq:=h.pos;have hqm:0<q * m:=Nat.mul_pos hq hm;rw [show ((k:Int) * 1)=((k:Nat):Int) by omega] at h1;obtain ⟨k1,rfl,hk1⟩:=h1.val hqm
 have hd:k1 / q1=k / (q * m):=by
  have a1:k1 / q1=k1 * (q * m) / (q1 * (q * m)):=(Nat.mul_div_mul_right _ _ hqm).symm;have a2:k / (q * m)=k * q1 / (q * m * q1):=(Nat.mul_div_mul_right _ _ h1.pos).symm;rw [a1,a2,hk1,Nat.mul_comm q1]
 have he:((k:Int) * ((1:Nat):Int)+-((m:Int) * ((k1:Int) / (q1:Int))) * (q:Int))=((k % (q * m):Nat):Int):=by
  rw [← Int.natCast_ediv,hd];have:=Nat.div_add_mod k (q * m);have h2:((k % (q * m):Nat):Int)=(k:Int) - ((q * m * (k / (q * m)):Nat):Int):=by omega
  rw [h2];push_cast;grind
 rw [he,Nat.mul_one] at h3;refine h3.same hq ?_;have:=mod_scale (m:=m) hq hQ hk
 exact_mod_cast this
theorem low_between {X Q q:Nat} {p:Int} (hQ:0<Q) (h:Low (X:Int) Q p q) (f:Nat):((0:Int)≤(p * ((1:Nat):Int) - (f:Int) * (q:Int)).sign↔f * Q≤X)∧((p * ((1:Nat):Int) - (f:Int) * (q:Int)).sign≤0↔X≤f * Q):=by
 obtain ⟨k,rfl,hk⟩:=h.val hQ;have hq:=h.pos
 have k1:(f * q≤k)↔f * Q≤X:=by
  constructor
  ·intro hle;refine Nat.le_of_mul_le_mul_right ?_ hq;rw [← hk]
   calc f * Q * q=f * q * Q:=by grind
    _≤k * Q:=Nat.mul_le_mul_right _ hle
  ·intro hle;refine Nat.le_of_mul_le_mul_right ?_ hQ;rw [hk]
   calc f * q * Q=f * Q * q:=by grind
    _≤X * q:=Nat.mul_le_mul_right _ hle
 have k2:(k≤f * q)↔X≤f * Q:=by
  constructor
  ·intro hle;refine Nat.le_of_mul_le_mul_right ?_ hq;rw [← hk]
   calc k * Q≤f * q * Q:=Nat.mul_le_mul_right _ hle
    _=f * Q * q:=by grind
  ·intro hle;refine Nat.le_of_mul_le_mul_right ?_ hQ;rw [hk]
   calc X * q≤f * Q * q:=Nat.mul_le_mul_right _ hle
    _=f * q * Q:=by grind
 have e:((k:Int) * ((1:Nat):Int) - (f:Int) * (q:Int))=(k:Int) - ((f * q:Nat):Int):=by push_cast;omega
 rw [e,← k1,← k2];constructor
 ·constructor
  ·intro h0;rcases Nat.lt_or_ge k (f * q) with h1|h1
   ·rw [Int.sign_eq_neg_one_of_neg (by omega)] at h0;omega
   ·exact h1
  ·intro h0;rcases Nat.eq_or_lt_of_le h0 with h1|h1
   ·rw [h1];simp
   ·rw [Int.sign_eq_one_of_pos (by omega)];omega
 ·constructor
  ·intro h0;rcases Nat.lt_or_ge (f * q) k with h1|h1
   ·rw [Int.sign_eq_one_of_pos (by omega)] at h0;omega
   ·exact h1
  ·intro h0;rcases Nat.eq_or_lt_of_le h0 with h1|h1
   ·rw [h1];simp
   ·rw [Int.sign_eq_neg_one_of_neg (by omega)];omega
theorem padD_top:∀ (j r:Nat),padD (j+1) r=UInt8.ofNat (48+r / 10 ^ j % 10) :: padD j r
 | 0,r=>by simp [padD]
 | j+1,r=>by
  rw [padD,padD_top j (r / 10),padD];simp [Nat.div_div_eq_div_mul,Nat.pow_succ,Nat.mul_comm]
theorem padD_mod:∀ (j r:Nat),padD j (r % 10 ^ j)=padD j r
 | 0,r=>rfl
 | j+1,r=>by
  have e1:r % 10 ^ (j+1) / 10=r / 10 % 10 ^ j:=by
   rw [Nat.pow_succ,Nat.mul_comm,Nat.mod_mul_right_div_self]
  have e2:r % 10 ^ (j+1) % 10=r % 10:=Nat.mod_mod_of_dvd _ ⟨10 ^ j,by rw [Nat.pow_succ,Nat.mul_comm]⟩;rw [padD,padD,e1,e2,padD_mod j]
theorem padD_drop:∀ (i j r:Nat),(padD (j+i) r).drop i=padD j r
 | 0,j,r=>rfl
 | i+1,j,r=>by
  rw [← Nat.add_assoc,padD_top,List.drop_succ_cons,padD_drop i j r]
def Digs (n least J:Nat):Prop:=n<10 ^ J∧least≤J∧(J=least∨(1≤J∧10 ^ (J - 1)≤n))
theorem Digs.pad {n least J:Nat} (h:Digs n least J) (hn:n<10 ^ least):padD J n=padD least n:=by
 obtain ⟨h1,h2,h3|⟨h3,h4⟩⟩:=h
 ·rw [h3]
 ·rcases Nat.lt_or_ge least J with h5|h5
  ·have:=Nat.pow_le_pow_right (n:=10) (by decide) (show least≤J - 1 by omega);omega
  ·rw [show J=least by omega]
theorem Digs.dec {n J:Nat} (h:Digs n 1 J):padD J n=Lib.decDigits n:=by
 obtain ⟨h1,h2,h3⟩:=h;obtain ⟨k1,k2⟩:=padD_eq J n h1 (by omega)
 have:J≤(Lib.decDigits n).length:=by
  have h4:=Lib.decFrom_lt _ _ _ (decFrom_decDigits n);have hne:0<(Lib.decDigits n).length:=List.length_pos_iff.2 (decDigits_ne n);rcases h3 with h3|⟨h3,h5⟩
  ·omega
  ·rcases Nat.lt_or_ge (Lib.decDigits n).length J with h6|h6
   ·have:=Nat.pow_le_pow_right (n:=10) (by decide) (show (Lib.decDigits n).length≤J - 1 by omega);simp at h4;omega
   ·exact h6
 rw [k2,show J - (Lib.decDigits n).length=0 by omega]
 rfl
theorem itoa_text (z:Int):Lib.itoa z=(if z<0 then [45] else []) ++ Lib.decDigits z.natAbs:=by
 unfold Lib.itoa;split
 ·rfl
 ·rw [show z.toNat=z.natAbs by omega];rfl
theorem tail_digits {k S L:Nat} (hL:S≤L) (hk:k<10 ^ L) (hL0:0<L):(List.replicate (L - (Lib.decDigits k).length) 48 ++ Lib.decDigits k).drop (L - S)=padD S k:=by
 rw [← (padD_eq L k hk hL0).2];have:=padD_drop (L - S) S k
 rwa [show S+(L - S)=L by omega] at this
def dv (l:Bs):Nat:=l.foldl (fun a b=>10 * a+(b.toNat - 48)) 0
theorem foldl_dv:∀ (l:Bs) (a:Nat),l.foldl (fun a b=>10 * a+(b.toNat - 48)) a=a * 10 ^ l.length+dv l
 | [],a=>by simp [dv]
 | x :: l,a=>by
  unfold dv;rw [List.foldl_cons,List.foldl_cons,foldl_dv l,foldl_dv l (10 * 0+_),List.length_cons,Nat.pow_succ];grind
theorem dv_app (a b:Bs):dv (a ++ b)=dv a * 10 ^ b.length+dv b:=by
 show (a ++ b).foldl _ 0=_;rw [List.foldl_append,foldl_dv b]
 rfl
theorem dv_snoc (a:Bs) (x:UInt8):dv (a ++ [x])=10 * dv a+(x.toNat - 48):=by
 rw [dv_app];simp [dv];omega
theorem dv_dec {l:Bs} (h:∀ b ∈ l,isDig b=true) (a:Nat):Lib.decFrom a l=some (a * 10 ^ l.length+dv l):=by
 induction l generalizing a with
 | nil=>simp [Lib.decFrom,dv]
 | cons x l ih =>
  have hx:=h x (by simp);unfold isDig at hx;have hx':=of_decide_eq_true hx
  have hv:Lib.digitVal x=some (x.toNat - 48):=by
   unfold Lib.digitVal;rw [if_pos hx']
  simp only [Lib.decFrom,hv];rw [ih (fun b hb=>h b (List.mem_cons_of_mem _ hb))]
  congr 1
  rw [show x :: l=[x] ++ l from rfl,dv_app];simp [dv,Nat.pow_succ];grind
theorem dv_lt {l:Bs} (h:∀ b ∈ l,isDig b=true):dv l<10 ^ l.length:=by
 have:=Lib.decFrom_lt _ _ _ (dv_dec h 0);simpa using this
end Go.Proofs.YtdgleeglndcjhaaGreatDoor
