import Derived.Test.YtdgleeglndcjhaaGreatDoorX30
set_option linter.unusedSimpArgs false
set_option linter.unusedVariables false
set_option maxHeartbeats 8000000
set_option maxRecDepth 100000
namespace Go.Proofs.YtdgleeglndcjhaaGreatDoor
open Go.RowKit
def RetL (e:Ending) (w':World) (P:Int) (Q:Nat):Prop:=∃ p q,RetQ4 e w' p q∧Low P Q p q
theorem bb_ {w w':World} {g:Nat} {t:TypeId} {l:List Value} (h:Blk w g t l) (hb:Below w.heap.size w w'):Blk w' g t l:=h.below hb h.lt
theorem D4.z {w:World} {A:Option Addr} {n c k:Nat} (h:D4 w A n c k):RZ4 w false A n c (k:Int):=⟨by simp,by simpa using h⟩
theorem RZ4.bel {w w':World} {b:Bool} {A:Option Addr} {n c:Nat} {z:Int} (h:RZ4 w b A n c z) (hb:Below w.heap.size w w'):RZ4 w' b A n c z:=h.below hb ql
theorem D4.bel {w w':World} {A:Option Addr} {n c k:Nat} (h:D4 w A n c k) (hb:Below w.heap.size w w'):D4 w' A n c k:=h.below hb ql
theorem RQ4.bel {w w':World} {b:Bool} {A:Option Addr} {n c:Nat} {B:Option Addr} {m d:Nat} {p:Int} {q:Nat} (h:RQ4 w b A n c B m d p q) (hb:Below w.heap.size w w'):RQ4 w' b A n c B m d p q:=h.below hb ql
theorem le_of_le {a b c:Nat} (h:a≤b) (k:b≤c:=by omega):a≤c:=Nat.le_trans h k
theorem ref_QMul (w:World) (b b':Bool) (A A' B B':Option Addr) (n c n' c' m d m' d':Nat) (p r:Int) (q s:Nat) (h:RQ4 w b A n c B m d p q) (h':RQ4 w b' A' n' c' B' m' d' r s) (hq:0<q) (hs:0<s) (l1:(d4 p.natAbs).length≤20000) (l2:(d4 q).length≤20000) (l3:(d4 r.natAbs).length≤20000) (l4:(d4 s).length≤20000) :
  Calls Tryz.prog 110 #[.agg #[.bool b,.slice A n c,.slice B m d],.agg #[.bool b',.slice A' n' c',.slice B' m' d']] w fun e w'=>RetL e w' (p * r) (q * s)∧Below w.heap.size w w':=by
 have HX:=qh h;have HY:=qh h';have L1:=qh l1;have L2:=qh l2;have L3:=qh l3;have L4:=qh l4;have HQP:=qh hq;have HSP:=qh hs;have HP:=qh (Nat.mul_pos hq hs);clear h h' l1 l2 l3 l4 hq hs;go_enter Tryz.func110,Tryz.ntmps110;go_upto_region 1 with fail;refine wp_letter (fun w1=>Blk w1 w.heap.size 173 [.bool b,.slice A n c,.slice B m d]∧Blk w1 (w.heap.size+1) 173 [.bool b',.slice A' n' c',.slice B' m' d']∧Blk w1 (w.heap.size+1+1) 173 [.bool false,.slice none 0 0,.slice none 0 0]∧Below w.heap.size w w1) ⟨(((Blk.made _ 173 _ _ _ (by simp) rfl).alloc _).alloc _),((Blk.made _ 173 _ _ _ (by simp) rfl).alloc _),(Blk.made _ 173 _ _ _ (by simp) rfl),((((Below.refl _ _).alloc (by simp;try omega) _).alloc (by simp;try omega) _).alloc (by simp;try omega) _)⟩ ?_;rintro w1 ⟨b0,b1,b2,hb⟩;have HB:=qh hb;have K0:=qh b0;have K1:=qh b1;have K2:=qh b2;have hz:=b2.lt;clear hb b0 b1 b2;have HX1:Hid (RQ4 w1 b A n c B m d p q):=HX.o.bel HB.o;have HY1:Hid (RQ4 w1 b' A' n' c' B' m' d' r s):=HY.o.bel HB.o;have HKK:Hid (∀ w',Hold w1 (w.heap.size+1+1) 173 3 w'→w'.cell? ⟨w.heap.size,0,none⟩=some (.bool b)∧w'.cell? ⟨w.heap.size,1,none⟩=some (.slice A n c)∧w'.cell? ⟨w.heap.size,2,none⟩=some (.slice B m d)∧w'.cell? ⟨w.heap.size+1,0,none⟩=some (.bool b')∧w'.cell? ⟨w.heap.size+1,1,none⟩=some (.slice A' n' c')∧w'.cell? ⟨w.heap.size+1,2,none⟩=some (.slice B' m' d')∧w'.cell? ⟨w.heap.size+1+1,0,none⟩=some (cellAt w' ⟨w.heap.size+1+1,0,none⟩)∧w'.cell? ⟨w.heap.size+1+1,1,none⟩=some (cellAt w' ⟨w.heap.size+1+1,1,none⟩)∧w'.cell? ⟨w.heap.size+1+1,2,none⟩=some (cellAt w' ⟨w.heap.size+1+1,2,none⟩)∧w'.frozen? ⟨w.heap.size+1+1,0,none⟩=false∧w'.frozen? ⟨w.heap.size+1+1,1,none⟩=false∧w'.frozen? ⟨w.heap.size+1+1,2,none⟩=false∧Hold w1 (w.heap.size+1+1) 173 3 w'):=fun w' h=>⟨(h.blk K0.o (by omega)).cell 0,(h.blk K0.o (by omega)).cell 1,(h.blk K0.o (by omega)).cell 2,(h.blk K1.o (by omega)).cell 0,(h.blk K1.o (by omega)).cell 1,(h.blk K1.o (by omega)).cell 2,h.cell 0 (by omega),h.cell 1 (by omega),h.cell 2 (by omega),h.frozen 0,h.frozen 1,h.frozen 2,h⟩;have HSt:Hid (Hold w1 (w.heap.size+1+1) 173 3 w1):=Hold.start K2.o (by simp [No32])
 go_region_held3 (fun w'=>w'.cell? ⟨w.heap.size,0,none⟩=some (.bool b)∧w'.cell? ⟨w.heap.size,1,none⟩=some (.slice A n c)∧w'.cell? ⟨w.heap.size,2,none⟩=some (.slice B m d)∧w'.cell? ⟨w.heap.size+1,0,none⟩=some (.bool b')∧w'.cell? ⟨w.heap.size+1,1,none⟩=some (.slice A' n' c')∧w'.cell? ⟨w.heap.size+1,2,none⟩=some (.slice B' m' d')∧w'.cell? ⟨w.heap.size+1+1,0,none⟩=some (cellAt w' ⟨w.heap.size+1+1,0,none⟩)∧w'.cell? ⟨w.heap.size+1+1,1,none⟩=some (cellAt w' ⟨w.heap.size+1+1,1,none⟩)∧w'.cell? ⟨w.heap.size+1+1,2,none⟩=some (cellAt w' ⟨w.heap.size+1+1,2,none⟩)∧w'.frozen? ⟨w.heap.size+1+1,0,none⟩=false∧w'.frozen? ⟨w.heap.size+1+1,1,none⟩=false∧w'.frozen? ⟨w.heap.size+1+1,2,none⟩=false∧Hold w1 (w.heap.size+1+1) 173 3 w')
  (first|exact HKK.o _ HSt.o.drew|(go_split_ands;first|exact HKK.o _ (Hold.call ‹Hold w1 (w.heap.size+1+1) 173 3 _› hb2)|exact HKK.o _ (Hold.call ‹Hold w1 (w.heap.size+1+1) 173 3 _› hb3)|exact HKK.o _ (Hold.call ‹Hold w1 (w.heap.size+1+1) 173 3 _› hb4)|exact HKK.o _ (((‹Hold w1 (w.heap.size+1+1) 173 3 _›.set 0 _ (by simp)).set 1 _ (by simp)).set 2 _ (by simp))))
  (first|((with_reducible refine (ref_ZMul _ b b' A A' n c n' c' p r ?_ ?_ (le_of_le L1.o) (le_of_le L3.o)).mono ?_);(refine ⟨HX1.o.up.sign,D4.hold (W:=w1) (g:=w.heap.size+1+1) (t:=173) (n:=3) ?_ K2.o (noI_q _ _ _ _ _ _ _) HX1.o.up.d4⟩;(go_split_ands;assumption));(refine ⟨HY1.o.up.sign,D4.hold (W:=w1) (g:=w.heap.size+1+1) (t:=173) (n:=3) ?_ K2.o (noI_q _ _ _ _ _ _ _) HY1.o.up.d4⟩;(go_split_ands;assumption));rintro e w2 ⟨⟨b2,A2,n2,c2,rfl,hr2⟩,hb2⟩)|((with_reducible refine (ref_Mul _ B B' m d m' d' q s ?_ ?_ (le_of_le L2.o) (le_of_le L4.o)).mono ?_);(refine D4.hold (W:=w1) (g:=w.heap.size+1+1) (t:=173) (n:=3) ?_ K2.o (noI_q _ _ _ _ _ _ _) HX1.o.down;(go_split_ands;assumption));(refine D4.hold (W:=w1) (g:=w.heap.size+1+1) (t:=173) (n:=3) ?_ K2.o (noI_q _ _ _ _ _ _ _) HY1.o.down;(go_split_ands;assumption));rintro e w3 ⟨⟨A3,n3,c3,rfl,hr3⟩,hb3⟩)|((with_reducible refine (ref_QOf _ b2 A2 n2 c2 A3 n3 c3 (p * r) (q * s) (hr2.bel hb3) hr3 HP.o (le_of_le (d4_zmul_len L1.o L3.o)) (le_of_le (le_of_le (d4_mul_len q s) (Nat.add_le_add L2.o L4.o)))).mono ?_);rintro e w4 ⟨⟨b4,A4,n4,c4,A5,n5,c5,rfl,hr4⟩,hb4⟩))
 have hh:=(((HSt.o.drew.call hb2).call hb3).call hb4);have hg:=(((hh.set 0 (.bool b4) (by simp)).set 1 (.slice A4 n4 c4) (by simp)).set 2 (.slice A5 n5 c5) (by simp));have hB3:Blk w4 (w.heap.size+1+1) 173 [.bool false,.slice none 0 0,.slice none 0 0]:=(bb_ (bb_ (bb_ (K2.o.below ((Below.refl w1.heap.size w1).drew) K2.o.lt) hb2) hb3) hb4);have hf:=(((hB3.put 0 (.bool b4)).put 1 (.slice A4 n4 c4)).put 2 (.slice A5 n5 c5));simp only [M0,M1] at hf;have hs:=(hr4.up.d4).put3 hB3 (noI_q _ _ _ _ _ _ _) (.bool b4) (.slice A4 n4 c4) (.slice A5 n5 c5);have hs2:=(hr4.down).put3 hB3 (noI_q _ _ _ _ _ _ _) (.bool b4) (.slice A4 n4 c4) (.slice A5 n5 c5);obtain ⟨r0,r1,r2⟩:=hf.c3;generalize (((w4.setCell ⟨w.heap.size+1+1,0,none⟩ (.bool b4)).setCell ⟨w.heap.size+1+1,1,none⟩ (.slice A4 n4 c4)).setCell ⟨w.heap.size+1+1,2,none⟩ (.slice A5 n5 c5))=wf at *
 go_wp2
 refine bodyPost_ret (v:=.agg #[.bool b4,.slice A4 n4 c4,.slice A5 n5 c5]) (by simp [results,Tryz.results110,go_sem,r0,r1,r2];try rfl) rfl ?_;exact ⟨⟨_,_,⟨_,_,_,_,_,_,_,rfl,⟨⟨hr4.up.sign,hs⟩,hs2⟩⟩,low_of hr2.sign HP.o⟩,HB.o.trans (hg.below (by omega))⟩
theorem ref_QAdd (w:World) (b b':Bool) (A A' B B':Option Addr) (n c n' c' m d m' d':Nat) (p r:Int) (q s:Nat) (h:RQ4 w b A n c B m d p q) (h':RQ4 w b' A' n' c' B' m' d' r s) (hq:0<q) (hs:0<s) (l1:(d4 p.natAbs).length≤20000) (l2:(d4 q).length≤20000) (l3:(d4 r.natAbs).length≤20000) (l4:(d4 s).length≤20000) :
  Calls Tryz.prog 112 #[.agg #[.bool b,.slice A n c,.slice B m d],.agg #[.bool b',.slice A' n' c',.slice B' m' d']] w fun e w'=>RetL e w' (p * (s:Int)+r * (q:Int)) (q * s)∧Below w.heap.size w w':=by
 have HX:=qh h;have HY:=qh h';have L1:=qh l1;have L2:=qh l2;have L3:=qh l3;have L4:=qh l4;have HQP:=qh hq;have HSP:=qh hs;have HP:=qh (Nat.mul_pos hq hs);have L5:Hid ((d4 (p * (s:Int)).natAbs).length≤40000):=le_of_le (d4_zmul_len l1 (m:=20000) (by simpa using l4));have L6:Hid ((d4 (r * (q:Int)).natAbs).length≤40000):=le_of_le (d4_zmul_len l3 (m:=20000) (by simpa using l2));clear h h' l1 l2 l3 l4 hq hs;go_enter Tryz.func112,Tryz.ntmps112;go_upto_region 1 with fail;refine wp_letter (fun w1=>Blk w1 w.heap.size 173 [.bool b,.slice A n c,.slice B m d]∧Blk w1 (w.heap.size+1) 173 [.bool b',.slice A' n' c',.slice B' m' d']∧Blk w1 (w.heap.size+1+1) 173 [.bool false,.slice none 0 0,.slice none 0 0]∧Below w.heap.size w w1) ⟨(((Blk.made _ 173 _ _ _ (by simp) rfl).alloc _).alloc _),((Blk.made _ 173 _ _ _ (by simp) rfl).alloc _),(Blk.made _ 173 _ _ _ (by simp) rfl),((((Below.refl _ _).alloc (by simp;try omega) _).alloc (by simp;try omega) _).alloc (by simp;try omega) _)⟩ ?_;rintro w1 ⟨b0,b1,b2,hb⟩;have HB:=qh hb;have K0:=qh b0;have K1:=qh b1;have K2:=qh b2;have hz:=b2.lt;clear hb b0 b1 b2;have HX1:Hid (RQ4 w1 b A n c B m d p q):=HX.o.bel HB.o;have HY1:Hid (RQ4 w1 b' A' n' c' B' m' d' r s):=HY.o.bel HB.o;have HKK:Hid (∀ w',Hold w1 (w.heap.size+1+1) 173 3 w'→w'.cell? ⟨w.heap.size,0,none⟩=some (.bool b)∧w'.cell? ⟨w.heap.size,1,none⟩=some (.slice A n c)∧w'.cell? ⟨w.heap.size,2,none⟩=some (.slice B m d)∧w'.cell? ⟨w.heap.size+1,0,none⟩=some (.bool b')∧w'.cell? ⟨w.heap.size+1,1,none⟩=some (.slice A' n' c')∧w'.cell? ⟨w.heap.size+1,2,none⟩=some (.slice B' m' d')∧w'.cell? ⟨w.heap.size+1+1,0,none⟩=some (cellAt w' ⟨w.heap.size+1+1,0,none⟩)∧w'.cell? ⟨w.heap.size+1+1,1,none⟩=some (cellAt w' ⟨w.heap.size+1+1,1,none⟩)∧w'.cell? ⟨w.heap.size+1+1,2,none⟩=some (cellAt w' ⟨w.heap.size+1+1,2,none⟩)∧w'.frozen? ⟨w.heap.size+1+1,0,none⟩=false∧w'.frozen? ⟨w.heap.size+1+1,1,none⟩=false∧w'.frozen? ⟨w.heap.size+1+1,2,none⟩=false∧Hold w1 (w.heap.size+1+1) 173 3 w'):=fun w' h=>⟨(h.blk K0.o (by omega)).cell 0,(h.blk K0.o (by omega)).cell 1,(h.blk K0.o (by omega)).cell 2,(h.blk K1.o (by omega)).cell 0,(h.blk K1.o (by omega)).cell 1,(h.blk K1.o (by omega)).cell 2,h.cell 0 (by omega),h.cell 1 (by omega),h.cell 2 (by omega),h.frozen 0,h.frozen 1,h.frozen 2,h⟩;have HSt:Hid (Hold w1 (w.heap.size+1+1) 173 3 w1):=Hold.start K2.o (by simp [No32])
 go_region_held3 (fun w'=>w'.cell? ⟨w.heap.size,0,none⟩=some (.bool b)∧w'.cell? ⟨w.heap.size,1,none⟩=some (.slice A n c)∧w'.cell? ⟨w.heap.size,2,none⟩=some (.slice B m d)∧w'.cell? ⟨w.heap.size+1,0,none⟩=some (.bool b')∧w'.cell? ⟨w.heap.size+1,1,none⟩=some (.slice A' n' c')∧w'.cell? ⟨w.heap.size+1,2,none⟩=some (.slice B' m' d')∧w'.cell? ⟨w.heap.size+1+1,0,none⟩=some (cellAt w' ⟨w.heap.size+1+1,0,none⟩)∧w'.cell? ⟨w.heap.size+1+1,1,none⟩=some (cellAt w' ⟨w.heap.size+1+1,1,none⟩)∧w'.cell? ⟨w.heap.size+1+1,2,none⟩=some (cellAt w' ⟨w.heap.size+1+1,2,none⟩)∧w'.frozen? ⟨w.heap.size+1+1,0,none⟩=false∧w'.frozen? ⟨w.heap.size+1+1,1,none⟩=false∧w'.frozen? ⟨w.heap.size+1+1,2,none⟩=false∧Hold w1 (w.heap.size+1+1) 173 3 w')
  (first|exact HKK.o _ HSt.o.drew|(go_split_ands;first|exact HKK.o _ (Hold.call ‹Hold w1 (w.heap.size+1+1) 173 3 _› hb2)|exact HKK.o _ (Hold.call ‹Hold w1 (w.heap.size+1+1) 173 3 _› hb3)|exact HKK.o _ (Hold.call ‹Hold w1 (w.heap.size+1+1) 173 3 _› hb4)|exact HKK.o _ (Hold.call ‹Hold w1 (w.heap.size+1+1) 173 3 _› hb5)|exact HKK.o _ (Hold.call ‹Hold w1 (w.heap.size+1+1) 173 3 _› hb6)|exact HKK.o _ (((‹Hold w1 (w.heap.size+1+1) 173 3 _›.set 0 _ (by simp)).set 1 _ (by simp)).set 2 _ (by simp))))
  (first|((with_reducible refine (ref_ZMul _ b false A B' n c m' d' p (s:Int) ?_ (D4.z ?_) (le_of_le L1.o) (le_of_le L4.o)).mono ?_);(refine ⟨HX1.o.up.sign,D4.hold (W:=w1) (g:=w.heap.size+1+1) (t:=173) (n:=3) ?_ K2.o (noI_q _ _ _ _ _ _ _) HX1.o.up.d4⟩;(go_split_ands;assumption));(refine D4.hold (W:=w1) (g:=w.heap.size+1+1) (t:=173) (n:=3) ?_ K2.o (noI_q _ _ _ _ _ _ _) HY1.o.down;(go_split_ands;assumption));rintro e w2 ⟨⟨b2,A2,n2,c2,rfl,hr2⟩,hb2⟩)|((with_reducible refine (ref_ZMul _ b' false A' B n' c' m d r (q:Int) ?_ (D4.z ?_) (le_of_le L3.o) (le_of_le L2.o)).mono ?_);(refine ⟨HY1.o.up.sign,D4.hold (W:=w1) (g:=w.heap.size+1+1) (t:=173) (n:=3) ?_ K2.o (noI_q _ _ _ _ _ _ _) HY1.o.up.d4⟩;(go_split_ands;assumption));(refine D4.hold (W:=w1) (g:=w.heap.size+1+1) (t:=173) (n:=3) ?_ K2.o (noI_q _ _ _ _ _ _ _) HX1.o.down;(go_split_ands;assumption));rintro e w3 ⟨⟨b3,A3,n3,c3,rfl,hr3⟩,hb3⟩)|((with_reducible refine (ref_ZAdd _ b2 b3 A2 A3 n2 c2 n3 c3 _ _ (hr2.bel hb3) hr3 (le_of_le L5.o) (le_of_le L6.o)).mono ?_);rintro e w4 ⟨⟨b4,A4,n4,c4,rfl,hr4⟩,hb4⟩)|((with_reducible refine (ref_Mul _ B B' m d m' d' q s ?_ ?_ (le_of_le L2.o) (le_of_le L4.o)).mono ?_);(refine D4.hold (W:=w1) (g:=w.heap.size+1+1) (t:=173) (n:=3) ?_ K2.o (noI_q _ _ _ _ _ _ _) HX1.o.down;(go_split_ands;assumption));(refine D4.hold (W:=w1) (g:=w.heap.size+1+1) (t:=173) (n:=3) ?_ K2.o (noI_q _ _ _ _ _ _ _) HY1.o.down;(go_split_ands;assumption));rintro e w5 ⟨⟨A5,n5,c5,rfl,hr5⟩,hb5⟩)|((with_reducible refine (ref_QOf _ b4 A4 n4 c4 A5 n5 c5 _ (q * s) (hr4.bel hb5) hr5 HP.o (le_of_le (d4_zadd_len L5.o L6.o)) (le_of_le (le_of_le (d4_mul_len q s) (Nat.add_le_add L2.o L4.o)))).mono ?_);rintro e w6 ⟨⟨b6,A6,n6,c6,A7,n7,c7,rfl,hr6⟩,hb6⟩))
 have hh:=(((((HSt.o.drew.call hb2).call hb3).call hb4).call hb5).call hb6);have hg:=(((hh.set 0 (.bool b6) (by simp)).set 1 (.slice A6 n6 c6) (by simp)).set 2 (.slice A7 n7 c7) (by simp));have hB3:Blk w6 (w.heap.size+1+1) 173 [.bool false,.slice none 0 0,.slice none 0 0]:=(bb_ (bb_ (bb_ (bb_ (bb_ (K2.o.below ((Below.refl w1.heap.size w1).drew) K2.o.lt) hb2) hb3) hb4) hb5) hb6);have hf:=(((hB3.put 0 (.bool b6)).put 1 (.slice A6 n6 c6)).put 2 (.slice A7 n7 c7));simp only [M0,M1] at hf;have hs:=(hr6.up.d4).put3 hB3 (noI_q _ _ _ _ _ _ _) (.bool b6) (.slice A6 n6 c6) (.slice A7 n7 c7);have hs2:=(hr6.down).put3 hB3 (noI_q _ _ _ _ _ _ _) (.bool b6) (.slice A6 n6 c6) (.slice A7 n7 c7);obtain ⟨r0,r1,r2⟩:=hf.c3;generalize (((w6.setCell ⟨w.heap.size+1+1,0,none⟩ (.bool b6)).setCell ⟨w.heap.size+1+1,1,none⟩ (.slice A6 n6 c6)).setCell ⟨w.heap.size+1+1,2,none⟩ (.slice A7 n7 c7))=wf at *
 go_wp2
 refine bodyPost_ret (v:=.agg #[.bool b6,.slice A6 n6 c6,.slice A7 n7 c7]) (by simp [results,Tryz.results112,go_sem,r0,r1,r2];try rfl) rfl ?_;exact ⟨⟨_,_,⟨_,_,_,_,_,_,_,rfl,⟨⟨hr6.up.sign,hs⟩,hs2⟩⟩,low_of hr4.sign HP.o⟩,HB.o.trans (hg.below (by omega))⟩
theorem ref_QCmp (w:World) (b b':Bool) (A A' B B':Option Addr) (n c n' c' m d m' d':Nat) (p r:Int) (q s:Nat) (h:RQ4 w b A n c B m d p q) (h':RQ4 w b' A' n' c' B' m' d' r s) (hq:0<q) (hs:0<s) (l1:(d4 p.natAbs).length≤20000) (l2:(d4 q).length≤20000) (l3:(d4 r.natAbs).length≤20000) (l4:(d4 s).length≤20000) :
  Calls Tryz.prog 115 #[.agg #[.bool b,.slice A n c,.slice B m d],.agg #[.bool b',.slice A' n' c',.slice B' m' d']] w fun e w'=>e=.returned (.int .i64 (p * (s:Int) - r * (q:Int)).sign)∧Below w.heap.size w w':=by
 have HX:=qh h;have HY:=qh h';have L1:=qh l1;have L2:=qh l2;have L3:=qh l3;have L4:=qh l4;have HQP:=qh hq;have HSP:=qh hs;have HP:=qh (Nat.mul_pos hq hs);clear h h' l1 l2 l3 l4 hq hs;obtain ⟨z,hz0⟩:∃ z,(p * (s:Int) - r * (q:Int)).sign=z:=⟨_,rfl⟩;rw [hz0];have HZ:=qh hz0;clear hz0;go_enter Tryz.func115,Tryz.ntmps115;go_upto_region 1 with fail;refine wp_letter (fun w1=>Blk w1 w.heap.size 173 [.bool b,.slice A n c,.slice B m d]∧Blk w1 (w.heap.size+1) 173 [.bool b',.slice A' n' c',.slice B' m' d']∧Below w.heap.size w w1) ⟨((Blk.made _ 173 _ _ _ (by simp) rfl).alloc _),(Blk.made _ 173 _ _ _ (by simp) rfl),(((Below.refl _ _).alloc (by simp;try omega) _).alloc (by simp;try omega) _)⟩ ?_;rintro w1 ⟨b0,b1,hb⟩;have HB:=qh hb;have K0:=qh b0;have K1:=qh b1;have hz:=b1.lt;clear hb b0 b1;have HX1:Hid (RQ4 w1 b A n c B m d p q):=HX.o.bel HB.o;have HY1:Hid (RQ4 w1 b' A' n' c' B' m' d' r s):=HY.o.bel HB.o;have HKK:Hid (∀ w',Below w1.heap.size w1 w'→w'.cell? ⟨w.heap.size,0,none⟩=some (.bool b)∧w'.cell? ⟨w.heap.size,1,none⟩=some (.slice A n c)∧w'.cell? ⟨w.heap.size,2,none⟩=some (.slice B m d)∧w'.cell? ⟨w.heap.size+1,0,none⟩=some (.bool b')∧w'.cell? ⟨w.heap.size+1,1,none⟩=some (.slice A' n' c')∧w'.cell? ⟨w.heap.size+1,2,none⟩=some (.slice B' m' d')∧Below w1.heap.size w1 w'):=fun w' h=>⟨(K0.o.below h (by omega)).cell 0,(K0.o.below h (by omega)).cell 1,(K0.o.below h (by omega)).cell 2,(K1.o.below h (by omega)).cell 0,(K1.o.below h (by omega)).cell 1,(K1.o.below h (by omega)).cell 2,h⟩
 go_region_held3 (fun w'=>w'.cell? ⟨w.heap.size,0,none⟩=some (.bool b)∧w'.cell? ⟨w.heap.size,1,none⟩=some (.slice A n c)∧w'.cell? ⟨w.heap.size,2,none⟩=some (.slice B m d)∧w'.cell? ⟨w.heap.size+1,0,none⟩=some (.bool b')∧w'.cell? ⟨w.heap.size+1,1,none⟩=some (.slice A' n' c')∧w'.cell? ⟨w.heap.size+1,2,none⟩=some (.slice B' m' d')∧Below w1.heap.size w1 w')
  (first|exact HKK.o _ (Below.refl _ _).drew|(go_split_ands;first|exact HKK.o _ (Below.trans ‹Below w1.heap.size w1 _› (hb2.mono (Below.size ‹Below w1.heap.size w1 _›)))|exact HKK.o _ (Below.trans ‹Below w1.heap.size w1 _› (hb3.mono (Below.size ‹Below w1.heap.size w1 _›)))|exact HKK.o _ (Below.trans ‹Below w1.heap.size w1 _› (hb4.mono (Below.size ‹Below w1.heap.size w1 _›)))))
  (first|((with_reducible refine (ref_QNeg _ b' A' n' c' B' m' d' r s ?_).mono ?_);(refine HY1.o.bel ?_;go_split_ands;assumption);rintro e w2 ⟨⟨b2,A2,n2,c2,B2,m2,d2,rfl,hr2⟩,hb2⟩)|((with_reducible refine (ref_QAdd _ b b2 A A2 B B2 n c n2 c2 m d m2 d2 p (-r) q s ?_ hr2 HQP.o HSP.o L1.o L2.o (by rw [Int.natAbs_neg];exact L3.o) L4.o).mono ?_);(refine HX1.o.bel ?_;go_split_ands;assumption);rintro e w3 ⟨⟨p3,q3,⟨b3,A3,n3,c3,B3,m3,d3,rfl,hr3⟩,hl3⟩,hb3⟩;have hsg:p3.sign=z:=(by rw [hl3.sign HP.o,← HZ.o];congr 1;rw [Int.neg_mul];rfl))|((with_reducible refine (ref_QSign _ b3 A3 n3 c3 B3 m3 d3 p3 q3 hr3).mono ?_);rw [hsg];rintro e w4 ⟨rfl,hb4⟩))
 go_wp2
 go_ret
 refine ⟨rfl,?_⟩
 first|(go_split_ands;exact HB.o.trans (Below.mono ‹Below w1.heap.size w1 _› HB.o.size))
def RetZR (e:Ending) (w':World) (z:Int) (r:Nat):Prop:=∃ b A n c A' n' c',e=.returned (.tuple #[.agg #[.bool b,.slice A n c],.agg #[.bool false,.slice A' n' c']])∧RZ4 w' b A n c z∧D4 w' A' n' c' r
theorem ref_ZDiv (w:World) (A A':Option Addr) (n c n' c' x y:Nat) (h:D4 w A n c x) (h':D4 w A' n' c' y) (hl:(d4 x).length≤90000) (hl':(d4 y).length≤90000) (hy:y≠0) :
  Calls Tryz.prog 169 #[.agg #[.bool false,.slice A n c],.agg #[.bool false,.slice A' n' c']] w fun e w'=>RetZR e w' ((x / y:Nat):Int) (x % y)∧Below w.heap.size w w':=by
 have HX:=qh h;have HY:=qh h';have L1:=qh hl;have L2:=qh hl';have HY0:=qh hy;clear h h' hl hl' hy;go_enter Tryz.func169,Tryz.ntmps169;go_upto_region 1 with fail;refine wp_letter (fun w1=>Blk w1 w.heap.size 171 [.bool false,.slice A n c]∧Blk w1 (w.heap.size+1) 171 [.bool false,.slice A' n' c']∧Blk w1 (w.heap.size+1+1) 171 [.bool false,.slice none 0 0]∧Blk w1 (w.heap.size+1+1+1) 171 [.bool false,.slice none 0 0]∧Below w.heap.size w w1) ⟨((((Blk.made _ 171 _ _ _ (by simp) rfl).alloc _).alloc _).alloc _),(((Blk.made _ 171 _ _ _ (by simp) rfl).alloc _).alloc _),((Blk.made _ 171 _ _ _ (by simp) rfl).alloc _),(Blk.made _ 171 _ _ _ (by simp) rfl),(((((Below.refl _ _).alloc (by simp;try omega) _).alloc (by simp;try omega) _).alloc (by simp;try omega) _).alloc (by simp;try omega) _)⟩ ?_;rintro w1 ⟨b0,b1,b2,b3,hb⟩;obtain ⟨-,k01⟩:=b0.c2;obtain ⟨-,k11⟩:=b1.c2;have HB:=qh hb;have K0:=qh b0;have K1:=qh b1;have K2:=qh b2;have K3:=qh b3;have hz:=b3.lt;clear hb b0 b1 b2 b3;go_wp2_with fail;refine (ref_Div w1 A A' n c n' c' x y (HX.o.bel HB.o) (HY.o.bel HB.o) L1.o L2.o HY0.o).mono ?_;rintro e w2 ⟨⟨A3,n3,c3,A4,n4,c4,rfl,hd3,hd4⟩,hb2⟩;have HD3:=qh hd3;have HD4:=qh hd4;have HB2:=qh hb2;have k00:=(K0.o.below hb2 (by omega)).c1;have k10:=(K1.o.below hb2 (by omega)).c1;clear hd3 hd4 hb2 k01 k11;dsimp only;go_wp2_with fail;refine (ref_ZOf w2 false A3 n3 c3 _ HD3.o).mono ?_;rintro e w3 ⟨⟨b5,A5,n5,c5,rfl,hr5⟩,hb3⟩;have hb13:=HB2.o.trans (hb3.mono HB2.o.size);have hb03:=HB.o.trans (hb13.mono HB.o.size);have x2:=K2.o.below hb13 (by omega);have x3:=K3.o.below hb13 (by omega);have HR5:=qh hr5;have HD5:=qh (HD4.o.bel hb3);have B03:=qh hb03;have X2:=qh x2;have X3:=qh x3;obtain ⟨k20,k21⟩:=x2.c2;obtain ⟨k30,k31⟩:=x3.c2;have f20:=x2.frozen 0;have f21:=x2.frozen 1;have f30:=x3.frozen 0;have f31:=x3.frozen 1;clear hr5 hb3 hb13 hb03 x2 x3 k00 k10 HD3 HD4 HB2 HX HY;dsimp only;go_wp2_with fail;have a1:=X3.o.far ⟨w.heap.size+1+1,0,none⟩ (.bool b5) (by simp);have a2:=a1.far ⟨w.heap.size+1+1,1,none⟩ (.slice A5 n5 c5) (by simp);have hf3:=(a2.put 0 (.bool false)).put 1 (.slice A4 n4 c4);have hf2:=(((X2.o.put 0 (.bool b5)).put 1 (.slice A5 n5 c5)).far ⟨w.heap.size+1+1+1,0,none⟩ (.bool false) (by simp)).far ⟨w.heap.size+1+1+1,1,none⟩ (.slice A4 n4 c4) (by simp);simp only [M0,M1] at hf2 hf3;have hs:=(HR5.o.d4.put2 X2.o (noI_z _ _ _ _) (.bool b5) (.slice A5 n5 c5)).put2 a2 (noI_z _ _ _ _) (.bool false) (.slice A4 n4 c4);have hs2:=(HD5.o.put2 X2.o (noI_z _ _ _ _) (.bool b5) (.slice A5 n5 c5)).put2 a2 (noI_z _ _ _ _) (.bool false) (.slice A4 n4 c4);have hbf:=below_set (below_set (below_set (below_set B03.o (w.heap.size+1+1) 0 (by omega) (.bool b5)) (w.heap.size+1+1) 1 (by omega) (.slice A5 n5 c5)) (w.heap.size+1+1+1) 0 (by omega) (.bool false)) (w.heap.size+1+1+1) 1 (by omega) (.slice A4 n4 c4);obtain ⟨r0,r1⟩:=hf2.c2;obtain ⟨r2,r3⟩:=hf3.c2;clear a1 a2;generalize ((((w3.setCell ⟨w.heap.size+1+1,0,none⟩ (.bool b5)).setCell ⟨w.heap.size+1+1,1,none⟩ (.slice A5 n5 c5)).setCell ⟨w.heap.size+1+1+1,0,none⟩ (.bool false)).setCell ⟨w.heap.size+1+1+1,1,none⟩ (.slice A4 n4 c4))=wf at *
 refine bodyPost_ret (v:=.tuple #[.agg #[.bool b5,.slice A5 n5 c5],.agg #[.bool false,.slice A4 n4 c4]]) (by simp [results,Tryz.results169,go_sem,r0,r1,r2,r3];try rfl) rfl ?_;exact ⟨⟨_,_,_,_,_,_,_,rfl,⟨HR5.o.sign,hs⟩,hs2⟩,hbf⟩
theorem ref_QFloor (w:World) (A B:Option Addr) (n c m d p q:Nat) (h:RQ4 w false A n c B m d (p:Int) q) (hq:0<q) (hl:(d4 p).length≤90000) (hl':(d4 q).length≤90000) :
  Calls Tryz.prog 109 #[.agg #[.bool false,.slice A n c,.slice B m d]] w fun e w'=>RetZ4 e w' ((p / q:Nat):Int)∧Below w.heap.size w w':=by
 have HX:=qh h;have L1:=qh hl;have L2:=qh hl';have HQ:=qh hq;clear h hl hl' hq;go_enter Tryz.func109,Tryz.ntmps109;go_upto_region 1 with fail;refine wp_letter (fun w1=>Blk w1 w.heap.size 173 [.bool false,.slice A n c,.slice B m d]∧Blk w1 (w.heap.size+1) 171 [.bool false,.slice none 0 0]∧Below w.heap.size w w1) ⟨((Blk.made _ 173 _ _ _ (by simp) rfl).alloc _),(Blk.made _ 171 _ _ _ (by simp) rfl),((Below.refl _ _).alloc (by simp;try omega) _).alloc (by simp;try omega) _⟩ ?_;rintro w1 ⟨b0,b1,hb⟩;obtain ⟨k00,k01,k02⟩:=b0.c3;have HB:=qh hb;have K1:=qh b1;have hz:=b1.lt;have HX1:=qh (HX.o.bel hb);clear hb b0 b1 HX;go_wp2_with fail;refine (ref_ZDiv w1 A B n c m d p q (by simpa using HX1.o.up.d4) HX1.o.down L1.o L2.o (Nat.ne_of_gt HQ.o)).mono ?_;rintro e w2 ⟨⟨b3,A3,n3,c3,A4,n4,c4,rfl,hr3,hd4⟩,hb2⟩;have x1:=K1.o.below hb2 (by omega);have hb02:=HB.o.trans (hb2.mono HB.o.size);have B02:=qh hb02;have X1:=qh x1;have HR3:=qh hr3;have hz2:=x1.lt;clear hr3 hd4 hb2 x1 hb02 k00 k01 k02;dsimp only;go_upto_region 2 with fail;refine wp_letter (fun wx=>Blk wx w2.heap.size 171 [.bool b3,.slice A3 n3 c3]∧Blk wx (w.heap.size+1) 171 [.bool false,.slice none 0 0]∧RZ4 wx b3 A3 n3 c3 ((p / q:Nat):Int)∧Below w.heap.size w wx) ⟨(Blk.made _ 171 _ _ _ (by simp) rfl).alloc _,(X1.o.alloc _).alloc _,HR3.o.bel (((Below.refl _ _).alloc (by simp) _).alloc (by simp) _),(B02.o.alloc B02.o.size _).alloc (by have:=B02.o.size;simp;omega) _⟩ ?_;rintro wx ⟨y0,y1,y2,y3⟩;have Y1:=qh y1;have Y2:=qh y2;have Y3:=qh y3;obtain ⟨k00,k01⟩:=y0.c2;obtain ⟨k10,k11,f10,f11⟩:=y1.cf2;clear y0 y1 y2 y3;go_wp2_with fail;have hf:=(Y1.o.put 0 (.bool b3)).put 1 (.slice A3 n3 c3);simp only [M0,M1] at hf;have hs:=Y2.o.d4.put2 Y1.o (noI_z _ _ _ _) (.bool b3) (.slice A3 n3 c3);have hbf:=below_set (below_set Y3.o (w.heap.size+1) 0 (by omega) (.bool b3)) (w.heap.size+1) 1 (by omega) (.slice A3 n3 c3);obtain ⟨r0,r1⟩:=hf.c2;generalize ((wx.setCell ⟨w.heap.size+1,0,none⟩ (.bool b3)).setCell ⟨w.heap.size+1,1,none⟩ (.slice A3 n3 c3))=wf at *
 refine bodyPost_ret (v:=.agg #[.bool b3,.slice A3 n3 c3]) (by simp [results,Tryz.results109,go_sem,r0,r1];try rfl) rfl ?_;exact ⟨⟨_,_,_,_,rfl,Y2.o.sign,hs⟩,hbf⟩
def lenStr:Value→Nat
 | .string b=>b.size
 | _=>0
theorem conv_one (x:Nat) (hx:x<256) (W:World):(convert 176 9 (.slice (some ⟨W.heap.size,0,none⟩) 1 1)).run Tryz.prog (W.alloc (.cells #[.int .u8 (x:Int)] 5))=.ok (.string ⟨#[UInt8.ofNat x]⟩) (W.alloc (.cells #[.int .u8 (x:Int)] 5)) :=
 run_convert_bytes_back _ 176 9 5 ⟨W.heap.size,0,none⟩ 1 [UInt8.ofNat x] Tryz.underlying176 Tryz.underlying5 Tryz.underlying9 (fun j hj=>by
  obtain rfl:j=0:=by simp at hj;exact hj
  exact cell_one_new W _ 5 0 _ (by simp [u8 _ hx]))
theorem ref_digits (w:World) (n least:Nat) (hn:n<10000) (hl:least≤4) :
  Calls Tryz.prog 175 #[.int .i64 (n:Int),.int .i64 (least:Int)] w fun e w'=>∃ J,e=.returned (.string ⟨(padD J n).toArray⟩)∧Digs n least J∧Below w.heap.size w w':=by
 go_enter Tryz.func175,Tryz.ntmps175;go_wp2_with fail;go_loopw [0,5] (fun i s wr=>∃ j q:Nat,i=.int .i64 (q:Int)∧q=n / 10 ^ j∧s=.string ⟨(padD j n).toArray⟩∧j≤4∧(j≤least∨(1≤j∧10 ^ (j - 1)≤n))∧Below w.heap.size w wr) (fun i s _=>(intOf i).toNat+(4 - lenStr s))
 case atStart=>exact ⟨0,n,rfl,by simp,rfl,by omega,.inl (by omega),Below.refl _ _⟩
 case round =>
  obtain ⟨j,q,rfl,hq,rfl,hj4,hj,hb⟩:=hrel;obtain ⟨wo,rfl⟩:∃ wo:World,wo=wr:=⟨_,rfl⟩;have hpl:=padD_len j n;obtain ⟨t,ht⟩:∃ t,padD j n=t:=⟨_,rfl⟩;rw [ht] at hpl ⊢;have HT:=qh ht;have HQ:=qh hq;have HJ:=qh hj;have HB:=qh hb;have hsz:=hb.size;have hqn:q≤n:=by rw [hq];exact Nat.div_le_self _ _
  have hpl4:t.length≤4:=by omega
  have HPL:=qh hpl;by_cases hgo:0<q∨j<least
  case neg =>
   have h0:¬ (0:Int)<(q:Int):=by omega
   have h1:¬ (t.length:Int)<(least:Int):=by omega
   clear ht hq hj hb hgo;go_wp2_with fail;go_ret
   refine ⟨j,by rw [HT.o];rfl,⟨?_,?_,?_⟩,HB.o⟩
   ·have:=HQ.o;have h2:n / 10 ^ j=0:=by omega
    exact (Nat.div_eq_zero_iff_lt (Nat.pow_pos (by decide))).1 h2
   ·have:=HPL.o;omega
   ·rcases HJ.o with h|h
    ·left;have:=HPL.o;omega
    ·exact .inr h
  obtain ⟨r,hr⟩:∃ r,q % 10=r:=⟨_,rfl⟩;obtain ⟨p,hp⟩:∃ p,q / 10=p:=⟨_,rfl⟩;have hrI:(q:Int).tmod 10=(r:Int):=by rw [Int.tmod_eq_emod_of_nonneg (by omega)];omega
  have hpI:(q:Int).tdiv 10=(p:Int):=by rw [Int.tdiv_eq_ediv_of_nonneg (by omega)];omega
  obtain ⟨x,hx⟩:∃ x,48+r=x:=⟨_,rfl⟩;have hxI:(48:Int)+(r:Int)=(x:Int):=by omega
  have hx2:x<256:=by omega
  have hxm:(x:Int) % 256=(x:Int):=by omega
  have hc:=conv_one x hx2 wo;have hpq:p≤q:=by omega
  have hp9:p≤9999:=by omega
  have hnext:padD (j+1) n=UInt8.ofNat x :: t:=by
   rw [padD_top,← hq,hr,hx,ht]
  have hpn:p=n / 10 ^ (j+1):=by rw [← hp,hq,Nat.div_div_eq_div_mul,Nat.pow_succ]
  have hj1:j+1≤least∨(1≤j+1∧10 ^ (j+1 - 1)≤n):=by
   rcases Nat.eq_zero_or_pos q with h|h
   ·left;omega
   ·right;refine ⟨by omega,?_⟩;rw [Nat.add_sub_cancel];rcases Nat.lt_or_ge n (10 ^ j) with h2|h2
    ·rw [Nat.div_eq_of_lt h2] at hq;omega
    ·exact h2
  have hj5:j+1≤4:=by
   rcases hj1 with h|⟨-,h⟩
   ·omega
   ·rw [Nat.add_sub_cancel] at h;rcases Nat.lt_or_ge j 4 with h2|h2
    ·omega
    ·have:=Nat.pow_le_pow_right (n:=10) (by decide) h2;omega
  have HN:=qh hnext;have HP:=qh hpn;have HJ1:=qh hj1;have HJ5:=qh hj5;have hfin:∃ wf:World,wf=wo.alloc (.cells #[.int .u8 (x:Int)] 5):=⟨_,rfl⟩
  have hstr:(⟨#[UInt8.ofNat x]⟩:ByteArray) ++ ⟨t.toArray⟩=⟨(padD (j+1) n).toArray⟩:=by
   rw [hnext];apply ByteArray.ext;simp
  have HS:=qh hstr;have HPQ:=qh hpq;clear ht hq hj hb hr hp hx hnext hpn hj1 hstr hfin hpq;by_cases h0:0<q
  ·have h0I:(0:Int)<(q:Int):=by omega
   clear hgo;go_wp2_with fail;go_roundw
   case rel =>
    exact ⟨j+1,p,by go_num,HP.o,by rw [← HS.o],HJ5.o,HJ1.o,HB.o.alloc HB.o.size _⟩
   case measure=>simp [intOf,lenStr,ByteArray.size];have:=HPQ.o;have:=HPL.o;have:=HJ5.o;omega
  ·have h0I:¬ (0:Int)<(q:Int):=by omega
   have h1I:(t.length:Int)<(least:Int):=by omega
   clear hgo;go_wp2_with fail;go_roundw
   case rel =>
    exact ⟨j+1,p,by go_num,HP.o,by rw [← HS.o],HJ5.o,HJ1.o,HB.o.alloc HB.o.size _⟩
   case measure=>simp [intOf,lenStr,ByteArray.size];have:=HPQ.o;have:=HPL.o;have:=HJ5.o;omega
theorem drop_pos {l:List Nat} (hc:Canon4 l) {j:Nat} (hj:j<l.length):0<v4 (l.drop j):=by
 have hne:l≠[]:=by intro e;subst e;simp at hj
 have h1:=v4_app (l.drop j).dropLast [l.getLast hne]
 have h2:(l.drop j).dropLast ++ [l.getLast hne]=l.drop j:=by
  have hne2:l.drop j≠[]:=by intro e;have:=congrArg List.length e;simp at this;omega
  rw [← List.getLast_drop hne2];exact List.dropLast_concat_getLast hne2
 rw [h2] at h1;rw [h1]
 have hx:0<l.getLast hne:=by
  rcases Nat.eq_zero_or_pos (l.getLast hne) with h|h
  ·exact absurd (by rw [List.getLast?_eq_some_getLast hne,h]) hc
  ·exact h
 have h3:0<10000 ^ (l.drop j).dropLast.length:=Nat.pow_pos (by decide);simp only [v4,Nat.mul_zero,Nat.add_zero];have:=Nat.mul_pos h3 hx;omega
theorem ref_Text (w:World) (A:Option Addr) (n c k:Nat) (h:D4 w A n c k) (hl:(d4 k).length≤100000) :
  Calls Tryz.prog 114 #[.slice A n c] w fun e w'=>e=.returned (.string ⟨(Lib.decDigits k).toArray⟩)∧Below w.heap.size w w':=by
 obtain rfl:n=(d4 k).length:=h.1.len;by_cases hk:k=0
 ·subst hk;have hn:((d4 0).length:Int)=0:=by rw [d4_zero];rfl
  have hd:Lib.decDigits 0=[48]:=Lib.decDigits_one (by decide);rw [hd];generalize (d4 0).length=n at *
  clear h hl hd;go_enter Tryz.func114,Tryz.ntmps114;go_wp2_with fail;go_ret
  exact ⟨rfl,Below.refl _ _⟩
 obtain ⟨a,ha⟩:∃ a,d4 k=a:=⟨_,rfl⟩;have hva:v4 a=k:=by rw [← ha,v4_d4]
 have hwa:W4 a:=by rw [← ha];exact w4_d4 k
 have hca:Canon4 a:=by rw [← ha];exact canon_of_d4 k
 have hpos:0<a.length:=by rw [← ha];exact (d4_len_pos k).2 (by omega)
 replace h:=h.1;rw [ha] at h hl ⊢;obtain ⟨b,o,rfl,hc⟩:=h.at (by omega);have HC:Hid (∀ (w':World) (j x:Nat),Below w.heap.size w w'→a[j]?=some x→w'.cell? ⟨b,o+j,none⟩=some (.int .i64 (x:Int))):=fun w' j x hb hx=>(hb.cell (World.block_lt_of_cell? w _ (hc j x hx))).trans (hc j x hx);have HVA:=qh hva;have HWA:=qh hwa;have HCA:=qh hca;obtain ⟨m,hm⟩:∃ m,a.length=m+1:=⟨a.length - 1,by omega⟩;obtain ⟨x,hx⟩:∃ x,a[m]?=some x:=⟨a[m]'(by omega),List.getElem?_eq_getElem _⟩;have hx4:x<10000:=hwa x (List.mem_of_getElem? hx)
 have htop:v4 (a.drop m)=x:=by
  rw [drop_step,List.drop_eq_nil_of_le (by omega),List.getD_eq_getElem?_getD,hx];simp [v4]
 have HTOP:=qh htop;have HM:=qh hm;have hne:((a.length:Int) == 0)=false:=by rw [beq_eq_false_iff_ne];omega
 have hm1:(a.length:Int) - 1=(m:Int):=by omega
 have hm2:(a.length:Int) - 2=(m:Int) - 1:=by omega
 have hml:(m:Int)<(a.length:Int):=by omega
 have hm0:(0:Int)≤(m:Int):=by omega
 have hlI:(a.length:Int)≤100000:=by omega
 have k0:=hc m x hx;clear h ha hva hwa hca hpos hk hc hx htop hm;go_enter Tryz.func114,Tryz.ntmps114;go_wp2_with fail;refine (ref_digits w x 1 hx4 (by omega)).mono ?_;rintro e w1 ⟨J,rfl,hJ,hb1⟩;rw [hJ.dec];have hlen1:=decDigits_len x (by omega);have HB1:=qh hb1;obtain ⟨t0,ht0⟩:∃ t0,Lib.decDigits x=t0:=⟨_,rfl⟩;rw [ht0] at hlen1 ⊢
 have hl1:t0.length≤4:=by
  have h1:=hJ.dec;have h2:=padD_len J x;rw [h1,ht0] at h2;have h3:=hJ.2.2;rcases h3 with h3|⟨h3,h4⟩
  ·omega
  ·rcases Nat.lt_or_ge 4 J with h5|h5
   ·have:=Nat.pow_le_pow_right (n:=10) (by decide) (show 4≤J - 1 by omega);omega
   ·omega
 have HT0:=qh ht0;clear hJ hb1 ht0 k0 hlen1;dsimp only;go_wp2_with fail;go_loopw [3,4] (fun s i wr=>∃ (j:Nat) (t:Bs),j≤m∧i=.int .i64 ((j:Int) - 1)∧s=.string ⟨t.toArray⟩∧t=Lib.decDigits (v4 (a.drop j))∧t.length+4 * j≤4 * a.length∧Below w.heap.size w wr) (fun _ i _=>(intOf i+1).toNat)
 case atStart=>exact ⟨m,t0,ql,by go_num,rfl,by rw [HTOP.o,HT0.o],by have:=HM.o;omega,HB1.o⟩
 case round =>
  obtain ⟨j,t,hjm,rfl,rfl,ht,htl,hb⟩:=hrel;have HT:=qh ht;have HB:=qh hb;clear ht hb;cases j with
  | zero =>
   have hI:¬ (0:Int)≤((0:Nat):Int) - 1:=by omega
   have HF:Hid (t=Lib.decDigits k):=by have:=HT.o;rw [List.drop_zero,HVA.o] at this;exact this
   clear HT;go_wp2_with fail;go_ret
   exact ⟨by rw [HF.o];rfl,HB.o⟩
  | succ j =>
   have e1:((j+1:Nat):Int) - 1=(j:Int):=by omega
   rw [e1];obtain ⟨y,hy⟩:∃ y,a[j]?=some y:=⟨a[j]'(by have:=HM.o;omega),List.getElem?_eq_getElem _⟩;have hy4:y<10000:=HWA.o y (List.mem_of_getElem? hy);have k1:=HC.o wr j y HB.o hy
   have hstep:Lib.decDigits (v4 (a.drop j))=t ++ padD 4 y:=by
    rw [drop_step,List.getD_eq_getElem?_getD,hy,HT.o,← decDigits_pad 4 _ y (drop_pos HCA.o (by have:=HM.o;omega)) (by omega)]
    congr 1
    simp;omega
   have HST:=qh hstep;have hj0:(0:Int)≤(j:Int):=by omega
   have hjl:(j:Int)<(a.length:Int):=by have:=HM.o;omega
   have htl2:t.length≤400000:=by omega
   clear hy hstep HT;go_wp2_with fail;refine (ref_digits wr y 4 hy4 (by omega)).mono ?_;rintro e w2 ⟨J,rfl,hJ,hb2⟩;rw [hJ.pad (by omega)];have hpl:=padD_len 4 y;obtain ⟨u,hu⟩:∃ u,padD 4 y=u:=⟨_,rfl⟩;rw [hu] at hpl ⊢
   have hst2:(⟨t.toArray⟩:ByteArray) ++ ⟨u.toArray⟩=⟨(Lib.decDigits (v4 (a.drop j))).toArray⟩:=by
    rw [HST.o,hu];apply ByteArray.ext;simp
   have HS2:=qh hst2;have HB2:=qt HB hb2;have hlen:(Lib.decDigits (v4 (a.drop j))).length+4 * j≤4 * a.length:=by rw [HST.o,hu,List.length_append];omega
   have HLEN:=qh hlen;have hu4:u.length≤4:=by omega
   clear hJ hb2 hu hst2 hlen k1 hpl;dsimp only;go_wp2_with fail;go_roundw
   case rel=>exact ⟨j,_,by omega,by go_num,by rw [HS2.o],rfl,HLEN.o,HB2.o⟩
   case measure=>simp [intOf];try omega
theorem ref_ZText (w:World) (b:Bool) (A:Option Addr) (n c:Nat) (z:Int) (h:RZ4 w b A n c z) (hl:(d4 z.natAbs).length≤100000) (htl:(Lib.decDigits z.natAbs).length≤1000000) :
  Calls Tryz.prog 167 #[.agg #[.bool b,.slice A n c]] w fun e w'=>e=.returned (.string ⟨(Lib.itoa z).toArray⟩)∧Below w.heap.size w w':=by
 have HX:=qh h;have hs:=h.sign;have HL:=qh hl;obtain ⟨t,ht⟩:∃ t,Lib.decDigits z.natAbs=t:=⟨_,rfl⟩;rw [ht] at htl;have HT:=qh ht
 have HI:Hid (Lib.itoa z=(if b then [45] else []) ++ t):=by
  show _=_;rw [itoa_text,ht,hs];by_cases h:z<0 <;> simp [h]
 clear h hl ht hs;cases b
 ·go_enter Tryz.func167,Tryz.ntmps167;go_wp2_with fail;refine calls_letter (fun w1=>Below w.heap.size w w1) ((Below.refl _ _).alloc ql _) ?_;intro w1 hb;have HB:=qh hb;clear hb;refine (ref_Text w1 A n c _ (HX.o.d4.bel HB.o) HL.o).mono ?_;rw [HT.o];rintro e w2 ⟨rfl,hb2⟩;have HB2:=qt HB hb2;clear hb2;dsimp only;go_wp2_with fail;go_ret
  exact ⟨by rw [HI.o];rfl,HB2.o⟩
 ·go_enter Tryz.func167,Tryz.ntmps167;go_wp2_with fail;refine calls_letter (fun w1=>Below w.heap.size w w1) ((Below.refl _ _).alloc ql _) ?_;intro w1 hb;have HB:=qh hb;clear hb;refine (ref_Text w1 A n c _ (HX.o.d4.bel HB.o) HL.o).mono ?_;rw [HT.o];rintro e w2 ⟨rfl,hb2⟩;have HB2:=qt HB hb2;clear hb2;dsimp only;go_wp2_with fail;go_ret
  exact ⟨by rw [HI.o];exact congrArg (fun x=>Ending.returned (Value.string x)) (ByteArray.ext (by simp)),HB2.o⟩
end Go.Proofs.YtdgleeglndcjhaaGreatDoor
