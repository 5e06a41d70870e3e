import Derived.Test.YtdgleeglndcjhaaGreatDoorW16
import Derived.Deep.CutBlock
set_option linter.unusedSimpArgs false
set_option linter.unusedVariables false
set_option maxHeartbeats 8000000
set_option maxRecDepth 100000
namespace Go.Proofs.YtdgleeglndcjhaaGreatDoor
open Go.RowKit
theorem ten_pow (k:Nat) (hk:k≤60):10 ^ k<2 ^ 200 :=
  Nat.lt_of_le_of_lt (Nat.pow_le_pow_right (Nat.succ_pos 9) hk) (by decide)
theorem dec_tens (w:World) (k:Nat) (hk:k≤60):Calls Tryz.prog 88 #[.int .i64 k] w fun e w'=>RetN e w' (10 ^ k)∧Below w.heap.size w w':=by
  have HK:=qh hk
  clear hk
  go_enter Tryz.func88,Tryz.ntmps88
  go_wp2_with fail
  refine calls_letter (fun w1=>Blk w1 w.heap.size 24 [.slice none 0 0]∧Below w.heap.size w w1) ⟨(Blk.made _ 24 _ _ _ (by simp) rfl),((Below.refl _ _).alloc (by simp;try omega) _)⟩ ?_
  rintro w1 ⟨b0,hb⟩
  have k00:=b0.c1
  have HB:=qh hb
  have H0:=qh b0
  have hz:=b0.lt
  clear hb b0
  refine (natOf _ 10 (by omega)).mono ?_
  rintro e w2 ⟨⟨A2,n2,c2,rfl,hr2⟩,hb2⟩
  dsimp only
  go_wp2_with fail
  have hbig:Big (10 ^ k):=big_pow (ten_pow k HK.out) (by omega)
  have hbig1:Big 10:=big_pow (k:=4) (by decide) (by omega)
  refine (nat_Pow _ A2 n2 c2 10 k hr2 (by omega) hbig hbig1 (by have:=HK.out;omega)).mono ?_
  rintro e w3 ⟨⟨A3,n3,c3,rfl,hr3⟩,hb3⟩
  clear hbig hbig1 k00
  have HSt:Hid (Hold w1 w.heap.size 24 1 w1):=Hold.start H0.out (by simp [No32])
  have hh0:=((HSt.out.call hb2).call hb3)
  have k0:=hh0.cell 0 (by omega)
  have f0:=hh0.frozen 0
  dsimp only
  go_wp2_with fail
  have hh:=((HSt.out.call hb2).call hb3)
  have hf:=hh.fill1 (.slice A3 n3 c3)
  have hg:=(hh.set 0 (.slice A3 n3 c3) (by simp))
  have hs:=(hr3.hset hh 0 (.slice A3 n3 c3))
  have r0:=hf.c1
  generalize (w3.setCell ⟨w.heap.size,0,none⟩ (.slice A3 n3 c3))=wf at *
  refine bodyPost_ret (v:=.agg #[.slice A3 n3 c3]) (by simp [results,Tryz.results88,go_sem,r0];try rfl) rfl ?_
  exact ⟨⟨_,_,_,rfl,hs⟩,HB.out.trans (hg.below (by omega))⟩
def goodD (b:Bool) (l:List Nat) (sc:Int):Bool:=goodL l && (decide (0≤sc) && (decide (sc≤60) && !(b && decide (val l=0))))
theorem dec_Good (w:World) (b:Bool) (A:Option Addr) (n c:Nat) (l:List Nat) (sc:Int) (h:RL w (.slice A n c) l) (hl:l.length≤1000000) :
    Calls Tryz.prog 41 #[.agg #[.bool b,.slice A n c,.int .i64 sc]] w fun e w'=>e=.returned (.bool (goodD b l sc))∧Below w.heap.size w w':=by
  have HX:=qh h
  have HL:=qh hl
  have HN:Hid (goodL l=true→SN w A n c (val l)):=fun hg=>by
    unfold SN RN;rw [goodL_words h.2 hg];exact h
  clear h hl
  go_enter Tryz.func41,Tryz.ntmps41
  go_wp2_with fail
  refine calls_letter (fun w1=>Blk w1 w.heap.size 26 [.bool b,.slice A n c,.int .i64 sc]∧Below w.heap.size w w1) ⟨(Blk.made _ 26 _ _ _ (by simp) rfl),((Below.refl _ _).alloc (by simp;try omega) _)⟩ ?_
  rintro w1 ⟨b0,hb⟩
  obtain ⟨k00,k01,k02⟩:=b0.c3
  have HB:=qh hb
  have H0:=qh b0
  have hz:=b0.lt
  clear hb b0
  refine (nat_Good _ _ l (HX.out.below HB.out ql) (by have:=HL.out;omega)).mono ?_
  rintro e w2 ⟨rfl,hb2⟩
  have d0:=H0.out.below hb2 H0.out.lt
  clear k00 k01 k02
  obtain ⟨k00,k01,k02⟩:=d0.c3
  have HB2:=qh (HB.out.trans (hb2.mono HB.out.size))
  have HN2:Hid (goodL l=true→SN w2 A n c (val l)):=fun hg=>((HN.out hg).below HB.out ql).below hb2 ql
  clear hb2 d0 HN
  by_cases hg:goodL l=true
  · have HG:=qh hg
    rw [hg]
    clear hg
    dsimp only
    by_cases h0:0≤sc
    · have e0:decide (0≤sc)=true:=by simpa using h0
      by_cases h1:sc≤60
      · have e1:decide (sc≤60)=true:=by simpa using h1
        cases b with
        | true =>
          go_wp2_with fail
          refine (dec_zero _ A n c (val l) (HN2.out HG.out) (Nat.le_trans (length_val HX.out.2) HL.out)).mono ?_
          rintro e w3 ⟨rfl,hb3⟩
          have HB3:=qh (HB2.out.trans (hb3.mono HB2.out.size))
          clear hb3
          dsimp only
          go_wp2
          go_ret
          exact ⟨by unfold goodD;rw [HG.out,e0,e1];simp,HB3.out⟩
        | false =>
          go_wp2
          go_ret
          exact ⟨by unfold goodD;rw [HG.out,e0,e1];rfl,HB2.out⟩
      · have e1:decide (sc≤60)=false:=by simpa using h1
        go_wp2
        go_ret
        exact ⟨by unfold goodD;rw [HG.out,e0,e1];rfl,HB2.out⟩
    · have e0:decide (0≤sc)=false:=by simpa using h0
      go_wp2
      go_ret
      exact ⟨by unfold goodD;rw [HG.out,e0];rfl,HB2.out⟩
  · have hg':goodL l=false:=by simpa using hg
    rw [hg']
    have HG:=qh hg'
    clear hg hg'
    dsimp only
    go_wp2
    go_ret
    exact ⟨by unfold goodD;rw [HG.out];rfl,HB2.out⟩
theorem goodD_sn {b:Bool} {k sc:Nat} (hs:sc≤60) (hb:b=true→0<k):goodD b (wordsOf k) sc=true:=by
  unfold goodD
  rw [goodL_wordsOf,val_wordsOf]
  cases b
  · simp;omega
  · have:=hb rfl
    simp;omega
def RetD (e:Ending) (w':World) (b:Bool) (k sc:Nat):Prop:=∃ A n c,e=.returned (.agg #[.bool b,.slice A n c,.int .i64 sc])∧SN w' A n c k
theorem dec_plain (w:World) (b:Bool) (A:Option Addr) (n c k sc:Nat) (h:SN w A n c k) (hk:Big k) (hs:sc≤60) (hb:b=true→0<k) :
    Calls Tryz.prog 85 #[.agg #[.bool b,.slice A n c,.int .i64 sc]] w fun e w'=>RetD e w' b k sc∧Below w.heap.size w w':=by
  have HX:=qh h
  have HK:=qh hk
  have HG:=qh (goodD_sn hs hb)
  clear h hk hs hb
  go_enter Tryz.func85,Tryz.ntmps85
  go_wp2_with fail
  refine calls_letter (fun w1=>Blk w1 w.heap.size 26 [.bool b,.slice A n c,.int .i64 sc]∧Blk w1 (w.heap.size+1) 26 [.bool false,.slice none 0 0,.int .i64 0]∧Below w.heap.size w w1) ⟨((Blk.made _ 26 _ _ _ (by simp) rfl).alloc _),(Blk.made _ 26 _ _ _ (by simp) rfl),(((Below.refl _ _).alloc (by simp;try omega) _).alloc (by simp;try omega) _)⟩ ?_
  rintro w1 ⟨b0,b1,hb⟩
  obtain ⟨k00,k01,k02⟩:=b0.c3
  obtain ⟨k10,k11,k12⟩:=b1.c3
  have HB:=qh hb
  have H0:=qh b0
  have H1:=qh b1
  have hz:=b1.lt
  clear hb b0 b1
  have HX1:=qh (HX.out.below HB.out ql)
  refine (dec_Good _ b A n c (wordsOf k) sc HX1.out HK.out).mono ?_
  rintro e w2 ⟨rfl,hb2⟩
  rw [HG.out]
  have d0:=H0.out.below hb2 H0.out.lt
  clear k00 k01 k02 k10 k11 k12
  obtain ⟨k00,k01,k02⟩:=d0.c3
  have HSt:Hid (Hold w1 (w.heap.size+1) 26 3 w1):=Hold.start H1.out (by simp [No32])
  have hh0:=(HSt.out.call hb2)
  have k0:=hh0.cell 0 (by omega)
  have f0:=hh0.frozen 0
  have k1:=hh0.cell 1 (by omega)
  have f1:=hh0.frozen 1
  have k2:=hh0.cell 2 (by omega)
  have f2:=hh0.frozen 2
  have hr2:=HX1.out.below hb2 ql
  clear d0
  dsimp only
  go_wp2_with fail
  have hh:=(HSt.out.call hb2)
  have hf:=hh.fill3 (.bool b) (.slice A n c) (.int .i64 sc)
  have hg:=(((hh.set 0 (.bool b) (by simp)).set 1 (.slice A n c) (by simp)).set 2 (.int .i64 sc) (by simp))
  have hs:=(((hr2.hset hh 0 (.bool b)).hset (hh.set 0 (.bool b) (by simp)) 1 (.slice A n c)).hset ((hh.set 0 (.bool b) (by simp)).set 1 (.slice A n c) (by simp)) 2 (.int .i64 sc))
  obtain ⟨r0,r1,r2⟩:=hf.c3
  generalize (((w2.setCell ⟨w.heap.size+1,0,none⟩ (.bool b)).setCell ⟨w.heap.size+1,1,none⟩ (.slice A n c)).setCell ⟨w.heap.size+1,2,none⟩ (.int .i64 sc))=wf at *
  refine bodyPost_ret (v:=.agg #[.bool b,.slice A n c,.int .i64 sc]) (by simp [results,Tryz.results85,go_sem,r0,r1,r2];try rfl) rfl ?_
  exact ⟨⟨_,_,_,rfl,hs⟩,HB.out.trans (hg.below (by omega))⟩
def TookQ (W:World) (g:Nat) (p:Int) (q k:Nat) (w:World):Prop:=∃ b A n c A' n' c',W.heap.size≤g∧Blk w g 37 [.bool b,.slice A n c,.slice A' n' c']∧RF w b A n c A' n' c' p q k∧Below W.heap.size W w
theorem dec_Rat (w:World) (A:Option Addr) (n c k sc:Nat) (h:SN w A n c k) (m:Nat) (hk:k<2 ^ m) (hm:200≤m) (hm2:m≤100000) (hs:sc≤60) :
    Calls Tryz.prog 50 #[.agg #[.bool false,.slice A n c,.int .i64 sc]] w fun e w'=>RetQ e w' k (10 ^ sc) m∧Below w.heap.size w w':=by
  have HX:=qh h
  have HK:=qh hk
  have HS:=qh hs
  have HM:=qh hm
  have HM2:=qh hm2
  clear h hk hs hm hm2
  go_enter Tryz.func50,Tryz.ntmps50
  go_wp2_with fail
  refine calls_letter (fun w1=>Blk w1 w.heap.size 26 [.bool false,.slice A n c,.int .i64 sc]∧Blk w1 (w.heap.size+1) 37 [.bool false,.slice none 0 0,.slice none 0 0]∧Below w.heap.size w w1) ⟨((Blk.made _ 26 _ _ _ (by simp) rfl).alloc _),(Blk.made _ 37 _ _ _ (by simp) rfl),(((Below.refl _ _).alloc (by simp;try omega) _).alloc (by simp;try omega) _)⟩ ?_
  rintro w1 ⟨b0,b1,hb⟩
  obtain ⟨k00,k01,k02⟩:=b0.c3
  obtain ⟨k10,k11,k12⟩:=b1.c3
  have HB:=qh hb
  have H0:=qh b0
  have H1:=qh b1
  have hz:=b1.lt
  clear hb b0 b1
  refine (dec_plain _ false A n c k sc (HX.out.below HB.out ql) (big_pow HK.out (by have:=HM2.out;omega)) HS.out (by simp)).mono ?_
  rintro e w2 ⟨⟨A2,n2,c2,rfl,hr⟩,hb2⟩
  have b0:=H0.out.below hb2 H0.out.lt
  have b1:=H1.out.below hb2 H1.out.lt
  clear k00 k01 k02 k10 k11 k12
  obtain ⟨k00,k01,k02,f00,f01,f02⟩:=b0.cf3
  have c0:=qh (((b0.put 0 (.bool false)).put 1 (.slice A2 n2 c2)).put 2 (.int .i64 sc))
  have c1:=qh (((b1.far ⟨w.heap.size,0,none⟩ (.bool false) (by simp)).far ⟨w.heap.size,1,none⟩ (.slice A2 n2 c2) (by simp)).far ⟨w.heap.size,2,none⟩ (.int .i64 sc) (by simp))
  have hd:Hold w2 w.heap.size 26 3 w2:=Hold.start b0 (by simp [No32])
  have E4:=qh (((hr.hset hd 0 (.bool false)).hset (hd.set 0 (.bool false) (by simp)) 1 (.slice A2 n2 c2)).hset ((hd.set 0 (.bool false) (by simp)).set 1 (.slice A2 n2 c2) (by simp)) 2 (.int .i64 sc))
  have HBB:=qh ((HB.out.trans (hb2.mono HB.out.size)).trans ((((hd.set 0 (.bool false) (by simp)).set 1 (.slice A2 n2 c2) (by simp)).set 2 (.int .i64 sc) (by simp)).below ql))
  clear hd hr hb2 b0 b1 H0 H1
  dsimp only
  go_wp2_with fail
  clear k00 k01 k02 f00 f01 f02
  generalize ((w2.setCell ⟨w.heap.size,0,none⟩ (.bool false)).setCell ⟨w.heap.size,1,none⟩ (.slice A2 n2 c2)).setCell ⟨w.heap.size,2,none⟩ (.int .i64 sc)=w3 at *
  simp only [qqq0,qqq1] at c0
  have hz3:=c1.out.lt
  have HP:=qh (ten_pow sc HS.out)
  have H10:Hid (0<10 ^ sc):=Nat.pow_pos (by omega)
  have HF:Hid (∀ w',Below w3.heap.size w3 w'→w'.cell? ⟨w.heap.size,0,none⟩=some (.bool false)∧w'.cell? ⟨w.heap.size,1,none⟩=some (.slice A2 n2 c2)∧w'.cell? ⟨w.heap.size,2,none⟩=some (.int .i64 sc)∧Below w3.heap.size w3 w'):=fun w' h=>⟨(h.cell (by simp;omega)).trans (c0.out.cell 0),(h.cell (by simp;omega)).trans (c0.out.cell 1),(h.cell (by simp;omega)).trans (c0.out.cell 2),h⟩
  have EZ:Hid (RZ w3 false A2 n2 c2 (k:Int)):=⟨by simp,by simpa using E4.out⟩
  go_cut [3] (fun s3 wx=>∃ g,s3=.pointer (some ⟨g,0,none⟩)∧TookQ w3 g k (10 ^ sc) m wx)
  case first =>
    go_region_held3 (fun w'=>w'.cell? ⟨w.heap.size,0,none⟩=some (.bool false)∧w'.cell? ⟨w.heap.size,1,none⟩=some (.slice A2 n2 c2)∧w'.cell? ⟨w.heap.size,2,none⟩=some (.int .i64 sc)∧Below w3.heap.size w3 w')
      (first|exact HF.out _ (Below.refl _ _).drew|exact HF.out _ ((Below.refl w3.heap.size w3).alloc ql _).drew|(go_split_ands;first|exact HF.out _ (below_on ‹Below w3.heap.size w3 _› ql hb5)|exact HF.out _ (below_on ‹Below w3.heap.size w3 _› ql hb4)|exact HF.out _ (Below.alloc ‹Below w3.heap.size w3 _› (Below.size ‹Below w3.heap.size w3 _›) _)|exact HF.out _ ((below_on (below_on (Below.refl w3.heap.size w3).drew ql hb4) ql hb5).alloc (by omega) _)|exact HF.out _ (((Below.setCell ‹Below w3.heap.size w3 _› (by first|(show w3.heap.size≤w3.heap.size;omega)|(show w3.heap.size≤w4.heap.size;omega)) _).setCell (by first|(show w3.heap.size≤w3.heap.size;omega)|(show w3.heap.size≤w4.heap.size;omega)) _).setCell (by first|(show w3.heap.size≤w3.heap.size;omega)|(show w3.heap.size≤w4.heap.size;omega)) _)))
      (first|((with_reducible refine (dec_tens _ sc HS.out).mono ?_);rintro e w4 ⟨⟨A4,n4,c4,rfl,hr4⟩,hb4⟩;(have s4:w3.heap.size≤w4.heap.size:=by have:=hb4.size;(try simp at this);omega);(first|(have hD:=Blk.below (Blk.made w3 37 [.bool false,.slice none 0 0,.slice none 0 0] w3.heap.size _ rfl rfl).drew hb4 (by simp))|skip))
             | ((with_reducible refine (rat_Of _ false A2 A4 n2 c2 n4 c4 (k:Int) (10 ^ sc) m ?_ ?_ H10.out (by simpa using HK.out) (Nat.lt_of_lt_of_le HP.out (Nat.pow_le_pow_right (Nat.succ_pos 1) HM.out)) (by have:=HM2.out;omega)).mono ?_);(refine RZ.below (B:=w3.heap.size) EZ.out ?_ ql;(go_split_ands;assumption));(first|exact hr4|exact hr4.below ((Below.refl _ _).alloc ql _) ql);rintro e w5 ⟨⟨b5,A5,n5,c5,A6,n6,c6,rfl,hr5⟩,hb5⟩;(have s5:w4.heap.size≤w5.heap.size:=by have:=hb5.size;(try simp at this);omega);(first|(have hD5:=Blk.below hD hb5 hD.lt)|(have hD5:=Blk.below (Blk.made w4 37 [.bool false,.slice none 0 0,.slice none 0 0] _ _ rfl rfl) hb5 (by simp))|skip);(first|(have q0:=hD5.cell 0;have q1:=hD5.cell 1;have q2:=hD5.cell 2;have q3:=hD5.frozen 0;have q4:=hD5.frozen 1;have q5:=hD5.frozen 2;simp only [qqq2,qqq3] at q0 q1 q2)|skip)))
    · go_wp2_with fail
      go_meet
      exact ⟨_,rfl,_,_,_,_,_,_,_,Nat.le_trans s4 s5,Blk.made _ 37 _ _ _ rfl rfl,hr5.below ((Below.refl _ _).alloc ql _) ql,(below_on (below_on (Below.refl w3.heap.size w3).drew ql hb4) ql hb5).alloc (Nat.le_trans s4 s5) _⟩
    · go_wp2_with fail
      go_meet
      have hb45:=((below_on (Below.refl w3.heap.size w3).drew ql hb4).alloc s4 (.cells #[.bool false,.slice none 0 0,.slice none 0 0] 37)).trans (hb5.mono (by simp;omega))
      have hd:Hold w5 w4.heap.size 37 3 w5:=Hold.start hD5 (by simp [No32])
      exact ⟨_,rfl,_,_,_,_,_,_,_,s4,hd.fill3 _ _ _,hr5.map (fun hs=>((hs.hset hd 0 _).hset (hd.set 0 _ (by simp)) 1 _).hset ((hd.set 0 _ (by simp)).set 1 _ (by simp)) 2 _),hb45.trans ((((hd.set 0 _ (by simp)).set 1 _ (by simp)).set 2 _ (by simp)).below s4)⟩
    · go_wp2_with fail
      go_meet
      have hb45:=(((Below.refl w3.heap.size w3).alloc ql (.cells #[.bool false,.slice none 0 0,.slice none 0 0] 37)).drew.trans (hb4.mono (by simp))).trans (hb5.mono s4)
      have hd:Hold w5 w3.heap.size 37 3 w5:=Hold.start hD5 (by simp [No32])
      exact ⟨_,rfl,_,_,_,_,_,_,_,ql,hd.fill3 _ _ _,hr5.map (fun hs=>((hs.hset hd 0 _).hset (hd.set 0 _ (by simp)) 1 _).hset ((hd.set 0 _ (by simp)).set 1 _ (by simp)) 2 _),hb45.trans ((((hd.set 0 _ (by simp)).set 1 _ (by simp)).set 2 _ (by simp)).below ql)⟩
  case rest =>
    obtain ⟨g,rfl,b5,A5,n5,c5,A6,n6,c6,hge,hd,hr,hb⟩:=hcut
    have D:=qh hd
    have R:=qh hr
    obtain ⟨k0,k1,k2⟩:=hd.c3
    have b1:=c1.out.below hb c1.out.lt
    have HSt:Hid (Hold wc (w.heap.size+1) 37 3 wc):=Hold.start b1 (by simp [No32])
    obtain ⟨m0,m1,m2,f0,f1,f2⟩:=b1.cf3
    have HB3:=qh (HBB.out.trans (hb.mono HBB.out.size))
    clear hd hr hb b1
    go_step
    go_wp2_with fail
    have hh:=HSt.out
    have hf:=hh.fill3 (.bool b5) (.slice A5 n5 c5) (.slice A6 n6 c6)
    have hg:=(((hh.set 0 (.bool b5) (by simp)).set 1 (.slice A5 n5 c5) (by simp)).set 2 (.slice A6 n6 c6) (by simp))
    have T:∀ {A:Option Addr} {m c k:Nat},SN wc A m c k→SN (((wc.setCell ⟨w.heap.size+1,0,none⟩ (.bool b5)).setCell ⟨w.heap.size+1,1,none⟩ (.slice A5 n5 c5)).setCell ⟨w.heap.size+1,2,none⟩ (.slice A6 n6 c6)) A m c k:=fun hs=>(((hs.hset hh 0 (.bool b5)).hset (hh.set 0 (.bool b5) (by simp)) 1 (.slice A5 n5 c5)).hset ((hh.set 0 (.bool b5) (by simp)).set 1 (.slice A5 n5 c5) (by simp)) 2 (.slice A6 n6 c6))
    obtain ⟨r0,r1,r2⟩:=hf.c3
    generalize (((wc.setCell ⟨w.heap.size+1,0,none⟩ (.bool b5)).setCell ⟨w.heap.size+1,1,none⟩ (.slice A5 n5 c5)).setCell ⟨w.heap.size+1,2,none⟩ (.slice A6 n6 c6))=wf at *
    refine bodyPost_ret (v:=.agg #[.bool b5,.slice A5 n5 c5,.slice A6 n6 c6]) (by simp [results,Tryz.results50,go_sem,r0,r1,r2];try rfl) rfl ?_
    exact ⟨⟨_,_,_,_,_,_,_,rfl,R.out.map T⟩,HB3.out.trans (hg.below (by omega))⟩
def One (w:World) (g:Nat):Prop:=∃ x,Blk w g 24 [x]∧No32 [x]
theorem One.of {w:World} {g:Nat} {A:Option Addr} {n c:Nat} (h:Blk w g 24 [.slice A n c]):One w g:=⟨_,h,by simp [No32]⟩
theorem One.set {w:World} {g:Nat} (h:One w g) (A:Option Addr) (n c:Nat):One (w.setCell ⟨g,0,none⟩ (.slice A n c)) g:=by
  obtain ⟨x,h1,h2⟩:=h
  exact ⟨_,h1.put 0 _,by simp [No32]⟩
theorem One.far {w:World} {g:Nat} (h:One w g) (g' i:Nat) (u:Value) (hne:g≠g'):One (w.setCell ⟨g',i,none⟩ u) g:=by
  obtain ⟨x,h1,h2⟩:=h
  exact ⟨_,h1.far _ _ hne,h2⟩
theorem One.alloc {w:World} {g:Nat} (h:One w g) (o:Obj):One (w.alloc o) g:=by
  obtain ⟨x,h1,h2⟩:=h
  exact ⟨_,h1.alloc o,h2⟩
theorem Blk.put1 {w:World} {g:Nat} (h:One w g) (u:Value):Blk (w.setCell ⟨g,0,none⟩ u) g 24 [u]:=by
  obtain ⟨x,h1,h2⟩:=h
  exact h1.put 0 u
theorem Blk.next (w:World) (o:Obj) (u:Value):Blk ((w.alloc o).alloc (.cells #[u] 24)) (w.heap.size+1) 24 [u]:=Blk.made _ 24 _ _ _ (by simp) rfl
theorem Blk.here (w:World) (u:Value):Blk (w.alloc (.cells #[u] 24)) w.heap.size 24 [u]:=Blk.made _ 24 _ _ _ rfl rfl
theorem SN.far1 {w:World} {g:Nat} {A:Option Addr} {m c k:Nat} (hs:SN w A m c k) (h:One w g) (u:Value):SN (w.setCell ⟨g,0,none⟩ u) A m c k:=by
  obtain ⟨x,h1,h2⟩:=h
  exact hs.far h1 h2 0 u
theorem SN.more {w:World} {A:Option Addr} {m c k:Nat} (hs:SN w A m c k) (o:Obj):SN (w.alloc o) A m c k:=hs.below ((Below.refl _ _).alloc ql _) ql
def TookN (W:World) (g:Nat) (k:Nat) (w:World):Prop:=∃ A n c,W.heap.size≤g∧Blk w g 24 [.slice A n c]∧SN w A n c k∧Below W.heap.size W w
theorem dec_Whole (w:World) (A:Option Addr) (n c k sc:Nat) (h:SN w A n c k) (m:Nat) (hk:k<2 ^ m) (hm:200≤m) (hm2:m≤100000) (hs:sc≤60) :
    Calls Tryz.prog 51 #[.agg #[.bool false,.slice A n c,.int .i64 sc]] w fun e w'=>RetN e w' (k / 10 ^ sc)∧Below w.heap.size w w':=by
  have HX:=qh h
  have HK:=qh hk
  have HS:=qh hs
  have HM:=qh hm
  have HM2:=qh hm2
  clear h hk hs hm hm2
  go_enter Tryz.func51,Tryz.ntmps51
  go_wp2_with fail
  refine calls_letter (fun w1=>Blk w1 w.heap.size 26 [.bool false,.slice A n c,.int .i64 sc]∧Blk w1 (w.heap.size+1) 24 [.slice none 0 0]∧Below w.heap.size w w1) ⟨((Blk.made _ 26 _ _ _ (by simp) rfl).alloc _),(Blk.made _ 24 _ _ _ (by simp) rfl),(((Below.refl _ _).alloc (by simp;try omega) _).alloc (by simp;try omega) _)⟩ ?_
  rintro w1 ⟨b0,b1,hb⟩
  obtain ⟨k00,k01,k02⟩:=b0.c3
  have k10:=b1.c1
  have HB:=qh hb
  have H0:=qh b0
  have H1:=qh b1
  have hz:=b1.lt
  clear hb b0 b1
  refine (dec_plain _ false A n c k sc (HX.out.below HB.out ql) (big_pow HK.out (by have:=HM2.out;omega)) HS.out (by simp)).mono ?_
  rintro e w2 ⟨⟨A2,n2,c2,rfl,hr⟩,hb2⟩
  have b0:=H0.out.below hb2 H0.out.lt
  have b1:=H1.out.below hb2 H1.out.lt
  clear k00 k01 k02 k10
  obtain ⟨k00,k01,k02,f00,f01,f02⟩:=b0.cf3
  have c0:=qh (((b0.put 0 (.bool false)).put 1 (.slice A2 n2 c2)).put 2 (.int .i64 sc))
  have c1:=qh (((b1.far ⟨w.heap.size,0,none⟩ (.bool false) (by simp)).far ⟨w.heap.size,1,none⟩ (.slice A2 n2 c2) (by simp)).far ⟨w.heap.size,2,none⟩ (.int .i64 sc) (by simp))
  have hd:Hold w2 w.heap.size 26 3 w2:=Hold.start b0 (by simp [No32])
  have E4:=qh (((hr.hset hd 0 (.bool false)).hset (hd.set 0 (.bool false) (by simp)) 1 (.slice A2 n2 c2)).hset ((hd.set 0 (.bool false) (by simp)).set 1 (.slice A2 n2 c2) (by simp)) 2 (.int .i64 sc))
  have HBB:=qh ((HB.out.trans (hb2.mono HB.out.size)).trans ((((hd.set 0 (.bool false) (by simp)).set 1 (.slice A2 n2 c2) (by simp)).set 2 (.int .i64 sc) (by simp)).below ql))
  clear hd hr hb2 b0 b1 H0 H1
  dsimp only
  go_wp2_with fail
  clear k00 k01 k02 f00 f01 f02
  generalize ((w2.setCell ⟨w.heap.size,0,none⟩ (.bool false)).setCell ⟨w.heap.size,1,none⟩ (.slice A2 n2 c2)).setCell ⟨w.heap.size,2,none⟩ (.int .i64 sc)=w3 at *
  simp only [qqq0,qqq1] at c0
  have hz3:=c1.out.lt
  have HP:=qh (ten_pow sc HS.out)
  have H10:Hid (0<10 ^ sc):=Nat.pow_pos (by omega)
  have HF:Hid (∀ w',Below w3.heap.size w3 w'→w'.cell? ⟨w.heap.size,0,none⟩=some (.bool false)∧w'.cell? ⟨w.heap.size,1,none⟩=some (.slice A2 n2 c2)∧w'.cell? ⟨w.heap.size,2,none⟩=some (.int .i64 sc)∧Below w3.heap.size w3 w'):=fun w' h=>⟨(h.cell (by simp;omega)).trans (c0.out.cell 0),(h.cell (by simp;omega)).trans (c0.out.cell 1),(h.cell (by simp;omega)).trans (c0.out.cell 2),h⟩
  go_cut [3] (fun s3 wx=>∃ g,s3=.pointer (some ⟨g,0,none⟩)∧TookN w3 g (k / 10 ^ sc) wx)
  case first =>
    go_region_held3 (fun w'=>w'.cell? ⟨w.heap.size,0,none⟩=some (.bool false)∧w'.cell? ⟨w.heap.size,1,none⟩=some (.slice A2 n2 c2)∧w'.cell? ⟨w.heap.size,2,none⟩=some (.int .i64 sc)∧Below w3.heap.size w3 w')
      (first|exact HF.out _ (Below.refl _ _).drew|(refine HF.out _ ?_;(repeat' (first|exact HB5.out|exact HB4.out|exact (Below.refl _ _).drew|exact Below.refl _ _|refine Below.drew ?_|refine Below.alloc ?_ ?_ _|refine Below.setCell ?_ ?_ _|omega|(simp;omega)|(simp;done)))))
      (first|((with_reducible refine (dec_tens _ sc HS.out).mono ?_);rintro e w4 ⟨⟨A4,n4,c4,rfl,hr4⟩,hb4⟩;(go_split_ands;have HB4:=qh (below_on ‹Below w3.heap.size w3 _› ql hb4));(have s4:=HB4.out.size);(first|(have D1:=Blk.below (((Blk.made w3 24 [.slice none 0 0] w3.heap.size _ rfl rfl).drew).alloc (.cells #[.slice none 0 0] 24)) hb4 (by simp;try omega);have D2:=Blk.below (Blk.made (w3.alloc (.cells #[.slice none 0 0] 24)).drew 24 [.slice none 0 0] (w3.heap.size+1) _ (by simp) rfl) hb4 (by simp))|(have D1:=Blk.below (Blk.made w3 24 [.slice none 0 0] w3.heap.size _ rfl rfl).drew hb4 (by simp))|skip))
             | ((with_reducible refine (natDiv _ A2 A4 n2 c2 n4 c4 k (10 ^ sc) ?_ ?_ (big_pow HK.out (by have:=HM2.out;omega)) (big_pow HP.out (by omega)) H10.out).mono ?_);(refine SN.below (B:=w3.heap.size) E4.out ?_ ql;(go_split_ands;assumption));(first|exact hr4|exact hr4.below ((Below.refl _ _).alloc ql _) ql|exact hr4.below (((Below.refl _ _).alloc ql _).alloc (by simp) _) ql);rintro e w5 ⟨⟨A5,n5,c5,A6,n6,c6,rfl,hr5,hr6⟩,hb5⟩;(go_split_ands;have HB5:=qh (below_on ‹Below w3.heap.size w3 _› ql hb5));(have s5:=HB5.out.size);(first|(have E1:=Blk.below D1 hb5 D1.lt;have E2:=Blk.below D2 hb5 D2.lt)|(have E1:=Blk.below (D1.alloc (.cells #[.slice none 0 0] 24)) hb5 (Blk.lt (D1.alloc (.cells #[.slice none 0 0] 24)));have E2:=Blk.below (Blk.made w4 24 [.slice none 0 0] w4.heap.size _ rfl rfl) hb5 (by simp);have q6:=Nat.ne_of_lt D1.lt;have q7:=(Nat.ne_of_lt D1.lt).symm)|(have E1:=Blk.below D1 hb5 D1.lt)|(have E1:=Blk.below ((Blk.made w4 24 [.slice none 0 0] w4.heap.size _ rfl rfl).alloc (.cells #[.slice none 0 0] 24)) hb5 (by simp;try omega);have E2:=Blk.below (Blk.made (w4.alloc (.cells #[.slice none 0 0] 24)) 24 [.slice none 0 0] (w4.heap.size+1) _ (by simp) rfl) hb5 (by simp))|(have E1:=Blk.below (Blk.made w4 24 [.slice none 0 0] w4.heap.size _ rfl rfl) hb5 (by simp))|skip);(first|(have q0:=E1.cell 0;have q1:=E1.frozen 0;have q2:=E2.cell 0;have q3:=E2.frozen 0;simp only [qqq2] at q0 q2)|(have q0:=E1.cell 0;have q1:=E1.frozen 0;have q4:=(E1.alloc (.cells #[.slice none 0 0] 24)).cell 0;have q5:=(E1.alloc (.cells #[.slice none 0 0] 24)).frozen 0;have q6:=Nat.ne_of_lt E1.lt;have q7:=(Nat.ne_of_lt E1.lt).symm;have q8:=(E1.alloc (.cells #[.slice A5 n5 c5] 24)).cell 0;have q9:=(E1.alloc (.cells #[.slice A5 n5 c5] 24)).frozen 0;simp only [qqq2] at q0 q4 q8)|skip)))
    all_goals
      go_wp2_with fail
      go_meet
      refine ⟨_,rfl,A5,n5,c5,?_,?_,?_,?_⟩
      · first|exact ql|exact s4|exact s5|(simp;omega)|omega
      · (repeat' (first|exact hr5|exact E1|exact E2|exact Blk.next _ _ _|exact Blk.here _ _|exact One.of E1|exact One.of E2|exact One.of (Blk.next _ _ _)|exact One.of (Blk.here _ _)|refine Blk.put1 ?_ _|refine One.set ?_ _ _ _|refine Blk.alloc ?_ _|refine One.alloc ?_ _|refine Blk.far ?_ _ _ ?_|refine One.far ?_ _ _ _ ?_|refine SN.far1 ?_ ?_ _|refine SN.more ?_ _|(simp;done)|omega|(simp;omega)))
      · (repeat' (first|exact hr5|exact E1|exact E2|exact Blk.next _ _ _|exact Blk.here _ _|exact One.of E1|exact One.of E2|exact One.of (Blk.next _ _ _)|exact One.of (Blk.here _ _)|refine Blk.put1 ?_ _|refine One.set ?_ _ _ _|refine Blk.alloc ?_ _|refine One.alloc ?_ _|refine Blk.far ?_ _ _ ?_|refine One.far ?_ _ _ _ ?_|refine SN.far1 ?_ ?_ _|refine SN.more ?_ _|(simp;done)|omega|(simp;omega)))
      · (repeat' (first|exact HB5.out|exact HB4.out|exact (Below.refl _ _).drew|exact Below.refl _ _|refine Below.drew ?_|refine Below.alloc ?_ ?_ _|refine Below.setCell ?_ ?_ _|omega|(simp;omega)|(simp;done)))
  case rest =>
    obtain ⟨g,rfl,A5,n5,c5,hge,hd,hr,hb⟩:=hcut
    have R:=qh hr
    have k0:=hd.c1
    have b1:=c1.out.below hb c1.out.lt
    have HSt:Hid (Hold wc (w.heap.size+1) 24 1 wc):=Hold.start b1 (by simp [No32])
    obtain ⟨m0,f0⟩:=b1.cf1
    have HB3:=qh (HBB.out.trans (hb.mono HBB.out.size))
    clear hd hr hb b1
    go_step
    go_wp2_with fail
    have hh:=HSt.out
    have hf:=hh.fill1 (.slice A5 n5 c5)
    have hg:=(hh.set 0 (.slice A5 n5 c5) (by simp))
    have hs:=(R.out.hset hh 0 (.slice A5 n5 c5))
    have r0:=hf.c1
    generalize (wc.setCell ⟨w.heap.size+1,0,none⟩ (.slice A5 n5 c5))=wf at *
    refine bodyPost_ret (v:=.agg #[.slice A5 n5 c5]) (by simp [results,Tryz.results51,go_sem,r0];try rfl) rfl ?_
    exact ⟨⟨_,_,_,rfl,hs⟩,HB3.out.trans (hg.below (by omega))⟩
theorem natOf10 (w:World):Calls Tryz.prog 18 #[.int .u64 10] w fun e w'=>RetN e w' 10∧Below w.heap.size w w':=natOf w 10 (by omega)
def short (k:Nat):Nat→Nat × Nat
  | 0=>(k,0)
  | s+1=>if k % 10=0 then short (k / 10) s else (k,s+1)
def TookNN (W:World) (g g':Nat) (k k':Nat) (w:World):Prop:=∃ A n c A' n' c',W.heap.size≤g∧W.heap.size≤g'∧Blk w g 24 [.slice A n c]∧Blk w g' 24 [.slice A' n' c']∧SN w A n c k∧SN w A' n' c' k'∧Below W.heap.size W w
def AtD (W:World) (B g g1:Nat) (k s:Nat) (w:World):Prop:=∃ A n c,Blk w g 26 [.bool false,.slice A n c,.int .i64 s]∧Blk w g1 26 [.bool false,.slice none 0 0,.int .i64 0]∧SN w A n c k∧Below B W w
theorem dec_Short (w:World) (A:Option Addr) (n c k sc:Nat) (h:SN w A n c k) (m:Nat) (hk:k<2 ^ m) (hm:200≤m) (hm2:m≤100000) (hs:sc≤60) :
    Calls Tryz.prog 49 #[.agg #[.bool false,.slice A n c,.int .i64 sc]] w fun e w'=>RetD e w' false (short k sc).1 (short k sc).2∧Below w.heap.size w w':=by
  have HX:=qh h
  have HK:=qh hk
  have HS:=qh hs
  have HM:=qh hm
  have HM2:=qh hm2
  clear h hk hs hm hm2
  go_enter Tryz.func49,Tryz.ntmps49
  go_wp2_with fail
  refine calls_letter (fun w1=>Blk w1 w.heap.size 26 [.bool false,.slice A n c,.int .i64 sc]∧Blk w1 (w.heap.size+1) 26 [.bool false,.slice none 0 0,.int .i64 0]∧Below w.heap.size w w1) ⟨((Blk.made _ 26 _ _ _ (by simp) rfl).alloc _),(Blk.made _ 26 _ _ _ (by simp) rfl),(((Below.refl _ _).alloc (by simp;try omega) _).alloc (by simp;try omega) _)⟩ ?_
  rintro w1 ⟨b0,b1,hb⟩
  obtain ⟨k00,k01,k02⟩:=b0.c3
  obtain ⟨k10,k11,k12⟩:=b1.c3
  have HB:=qh hb
  have H0:=qh b0
  have H1:=qh b1
  have hz:=b1.lt
  clear hb b0 b1
  refine (dec_plain _ false A n c k sc (HX.out.below HB.out ql) (big_pow HK.out (by have:=HM2.out;omega)) HS.out (by simp)).mono ?_
  rintro e w2 ⟨⟨A2,n2,c2,rfl,hr⟩,hb2⟩
  have b0:=H0.out.below hb2 H0.out.lt
  have b1:=H1.out.below hb2 H1.out.lt
  clear k00 k01 k02 k10 k11 k12
  obtain ⟨k00,k01,k02,f00,f01,f02⟩:=b0.cf3
  have c0:=qh (((b0.put 0 (.bool false)).put 1 (.slice A2 n2 c2)).put 2 (.int .i64 sc))
  have c1:=qh (((b1.far ⟨w.heap.size,0,none⟩ (.bool false) (by simp)).far ⟨w.heap.size,1,none⟩ (.slice A2 n2 c2) (by simp)).far ⟨w.heap.size,2,none⟩ (.int .i64 sc) (by simp))
  have hd:Hold w2 w.heap.size 26 3 w2:=Hold.start b0 (by simp [No32])
  have E4:=qh (((hr.hset hd 0 (.bool false)).hset (hd.set 0 (.bool false) (by simp)) 1 (.slice A2 n2 c2)).hset ((hd.set 0 (.bool false) (by simp)).set 1 (.slice A2 n2 c2) (by simp)) 2 (.int .i64 sc))
  have HBB:=qh ((HB.out.trans (hb2.mono HB.out.size)).trans ((((hd.set 0 (.bool false) (by simp)).set 1 (.slice A2 n2 c2) (by simp)).set 2 (.int .i64 sc) (by simp)).below ql))
  clear hd hr hb2 b0 b1 H0 H1
  dsimp only
  go_upto_block 0 with fail
  clear k00 k01 k02 f00 f01 f02
  generalize ((w2.setCell ⟨w.heap.size,0,none⟩ (.bool false)).setCell ⟨w.heap.size,1,none⟩ (.slice A2 n2 c2)).setCell ⟨w.heap.size,2,none⟩ (.int .i64 sc)=w3 at *
  simp only [qqq0,qqq1] at c0
  have hz3:=c1.out.lt
  go_cut [] (fun wx=>AtD w w.heap.size w.heap.size (w.heap.size+1) (short k sc).1 (short k sc).2 wx)
  case first =>
    go_wp2_with fail
    go_loopg [] sc (fun G wx=>∃ k' s':Nat,G=s'∧s'≤60∧k'≤k∧short k' s'=short k sc∧AtD w w.heap.size w.heap.size (w.heap.size+1) k' s' wx)
    case atStart=>exact ⟨k,sc,rfl,HS.out,ql,rfl,_,_,_,c0.out,c1.out,E4.out,HBB.out⟩
    case round =>
      obtain ⟨k',s',rfl,hs6,hkk,hsh,A3,n3,c3,b0,b1,hs3,hb3⟩:=hrel
      have B1:=qh b1
      have B0:=qh b0
      have S3:=qh hs3
      have HB3:=qh hb3
      have HSH:=qh hsh
      have HKK:=qh hkk
      have z1:=b1.lt
      obtain ⟨k0,k1,k2⟩:=b0.c3
      clear b0 b1 hs3 hb3 hsh hkk
      rcases Nat.eq_zero_or_pos gk with h0|h0
      · subst h0
        go_wp2_with fail
        go_meet
        rw [← HSH.out]
        exact ⟨_,_,_,B0.out,B1.out,S3.out,HB3.out⟩
      · obtain ⟨s,rfl⟩:∃ s,gk=s+1:=⟨gk - 1,by omega⟩
        have HBK:Hid (Big k'):=(big_pow HK.out (by have:=HM2.out;omega)).mono HKK.out
        have HB10:Hid (Big 10):=big_pow (k:=4) (by decide) (by omega)
        go_upto_region 3 with fail
        have HF:Hid (∀ w',Below wr.heap.size wr w'→w'.cell? ⟨w.heap.size,0,none⟩=some (.bool false)∧w'.cell? ⟨w.heap.size,1,none⟩=some (.slice A3 n3 c3)∧w'.cell? ⟨w.heap.size,2,none⟩=some (.int .i64 ((s+1:Nat):Int))∧Below wr.heap.size wr w'):=fun w' h=>⟨(h.cell (by simp;omega)).trans (B0.out.cell 0),(h.cell (by simp;omega)).trans (B0.out.cell 1),(h.cell (by simp;omega)).trans (B0.out.cell 2),h⟩
        go_cut [3,4] from 8 to 27 (fun s3 s4 wx=>∃ g g',s3=.pointer (some ⟨g,0,none⟩)∧s4=.pointer (some ⟨g',0,none⟩)∧TookNN wr g g' (k' / 10) (k' % 10) wx)
        case first =>
          go_region_held3 (fun w'=>w'.cell? ⟨w.heap.size,0,none⟩=some (.bool false)∧w'.cell? ⟨w.heap.size,1,none⟩=some (.slice A3 n3 c3)∧w'.cell? ⟨w.heap.size,2,none⟩=some (.int .i64 ((s+1:Nat):Int))∧Below wr.heap.size wr w')
            (first|exact HF.out _ (Below.refl _ _).drew|(refine HF.out _ ?_;(repeat' (first|exact HB5.out|exact HB4.out|exact (Below.refl _ _).drew|exact Below.refl _ _|refine Below.drew ?_|refine Below.alloc ?_ ?_ _|refine Below.setCell ?_ ?_ _|omega|(simp;omega)|(simp;done)))))
            (first|((with_reducible refine (natOf10 _).mono ?_);rintro e w4 ⟨⟨A4,n4,c4,rfl,hr4⟩,hb4⟩;(go_split_ands;have HB4:=qh (below_on ‹Below wr.heap.size wr _› ql hb4));(have s4:=HB4.out.size);(first|(have D1:=Blk.below (((Blk.made wr 24 [.slice none 0 0] wr.heap.size _ rfl rfl).drew).alloc (.cells #[.slice none 0 0] 24)) hb4 (by simp;try omega);have D2:=Blk.below (Blk.made (wr.alloc (.cells #[.slice none 0 0] 24)).drew 24 [.slice none 0 0] (wr.heap.size+1) _ (by simp) rfl) hb4 (by simp))|(have D1:=Blk.below (Blk.made wr 24 [.slice none 0 0] wr.heap.size _ rfl rfl).drew hb4 (by simp))|skip))
                   | ((with_reducible refine (natDiv _ A3 A4 n3 c3 n4 c4 k' 10 ?_ ?_ HBK.out HB10.out (by omega)).mono ?_);(refine SN.below (B:=wr.heap.size) S3.out ?_ ql;(go_split_ands;assumption));(first|exact hr4|exact hr4.below ((Below.refl _ _).alloc ql _) ql|exact hr4.below (((Below.refl _ _).alloc ql _).alloc (by simp) _) ql);rintro e w5 ⟨⟨A5,n5,c5,A6,n6,c6,rfl,hr5,hr6⟩,hb5⟩;(go_split_ands;have HB5:=qh (below_on ‹Below wr.heap.size wr _› ql hb5));(have s5:=HB5.out.size);(first|(have E1:=Blk.below D1 hb5 D1.lt;have E2:=Blk.below D2 hb5 D2.lt)|(have E1:=Blk.below (D1.alloc (.cells #[.slice none 0 0] 24)) hb5 (Blk.lt (D1.alloc (.cells #[.slice none 0 0] 24)));have E2:=Blk.below (Blk.made w4 24 [.slice none 0 0] w4.heap.size _ rfl rfl) hb5 (by simp);have q6:=Nat.ne_of_lt D1.lt;have q7:=(Nat.ne_of_lt D1.lt).symm)|(have E1:=Blk.below D1 hb5 D1.lt)|(have E1:=Blk.below ((Blk.made w4 24 [.slice none 0 0] w4.heap.size _ rfl rfl).alloc (.cells #[.slice none 0 0] 24)) hb5 (by simp;try omega);have E2:=Blk.below (Blk.made (w4.alloc (.cells #[.slice none 0 0] 24)) 24 [.slice none 0 0] (w4.heap.size+1) _ (by simp) rfl) hb5 (by simp))|(have E1:=Blk.below (Blk.made w4 24 [.slice none 0 0] w4.heap.size _ rfl rfl) hb5 (by simp))|skip);(first|(have q0:=E1.cell 0;have q1:=E1.frozen 0;have q2:=E2.cell 0;have q3:=E2.frozen 0;simp only [qqq2] at q0 q2)|(have q0:=E1.cell 0;have q1:=E1.frozen 0;have q4:=(E1.alloc (.cells #[.slice none 0 0] 24)).cell 0;have q5:=(E1.alloc (.cells #[.slice none 0 0] 24)).frozen 0;have q6:=Nat.ne_of_lt E1.lt;have q7:=(Nat.ne_of_lt E1.lt).symm;have q8:=(E1.alloc (.cells #[.slice A5 n5 c5] 24)).cell 0;have q9:=(E1.alloc (.cells #[.slice A5 n5 c5] 24)).frozen 0;simp only [qqq2] at q0 q4 q8)|skip)))
          all_goals
            go_wp2_with fail
            go_meet
            refine ⟨_,_,rfl,rfl,A5,n5,c5,A6,n6,c6,?_,?_,?_,?_,?_,?_,?_⟩
            · first|exact ql|exact s4|exact s5|(simp;omega)|omega
            · first|exact ql|exact s4|exact s5|(simp;omega)|omega
            · (repeat' (first|exact hr5|exact hr6|exact E1|exact E2|exact Blk.next _ _ _|exact Blk.here _ _|exact One.of E1|exact One.of E2|exact One.of (Blk.next _ _ _)|exact One.of (Blk.here _ _)|refine Blk.put1 ?_ _|refine One.set ?_ _ _ _|refine Blk.alloc ?_ _|refine One.alloc ?_ _|refine Blk.far ?_ _ _ ?_|refine One.far ?_ _ _ _ ?_|refine SN.far1 ?_ ?_ _|refine SN.more ?_ _|(simp;done)|omega|(simp;omega)))
            · (repeat' (first|exact hr5|exact hr6|exact E1|exact E2|exact Blk.next _ _ _|exact Blk.here _ _|exact One.of E1|exact One.of E2|exact One.of (Blk.next _ _ _)|exact One.of (Blk.here _ _)|refine Blk.put1 ?_ _|refine One.set ?_ _ _ _|refine Blk.alloc ?_ _|refine One.alloc ?_ _|refine Blk.far ?_ _ _ ?_|refine One.far ?_ _ _ _ ?_|refine SN.far1 ?_ ?_ _|refine SN.more ?_ _|(simp;done)|omega|(simp;omega)))
            · (repeat' (first|exact hr5|exact hr6|exact E1|exact E2|exact Blk.next _ _ _|exact Blk.here _ _|exact One.of E1|exact One.of E2|exact One.of (Blk.next _ _ _)|exact One.of (Blk.here _ _)|refine Blk.put1 ?_ _|refine One.set ?_ _ _ _|refine Blk.alloc ?_ _|refine One.alloc ?_ _|refine Blk.far ?_ _ _ ?_|refine One.far ?_ _ _ _ ?_|refine SN.far1 ?_ ?_ _|refine SN.more ?_ _|(simp;done)|omega|(simp;omega)))
            · (repeat' (first|exact hr5|exact hr6|exact E1|exact E2|exact Blk.next _ _ _|exact Blk.here _ _|exact One.of E1|exact One.of E2|exact One.of (Blk.next _ _ _)|exact One.of (Blk.here _ _)|refine Blk.put1 ?_ _|refine One.set ?_ _ _ _|refine Blk.alloc ?_ _|refine One.alloc ?_ _|refine Blk.far ?_ _ _ ?_|refine One.far ?_ _ _ _ ?_|refine SN.far1 ?_ ?_ _|refine SN.more ?_ _|(simp;done)|omega|(simp;omega)))
            · (repeat' (first|exact HB5.out|exact HB4.out|exact (Below.refl _ _).drew|exact Below.refl _ _|refine Below.drew ?_|refine Below.alloc ?_ ?_ _|refine Below.setCell ?_ ?_ _|omega|(simp;omega)|(simp;done)))
        case rest =>
          obtain ⟨g,g',rfl,rfl,A5,n5,c5,A6,n6,c6,hge,hge',d5,d6,r5,r6,hbw⟩:=hcut
          have c0':=B0.out.below hbw B0.out.lt
          have c1':=B1.out.below hbw B1.out.lt
          have HB4:=qh (HB3.out.trans (hbw.mono HB3.out.size))
          have S4:=qh (S3.out.below hbw ql)
          have hgn:w.heap.size+1<g:=by omega
          have hz4:=c1'.lt
          have C0:=qh c0'
          have C1:=qh c1'
          have D5:=qh d5
          have D6:=qh d6
          have R5:=qh r5
          have R6:=qh r6
          have q6:=d6.c1
          clear c0' c1' hbw d5 d6 r5 r6 k0 k1 k2 B0 B1 HB3 S3
          have HBR:Hid (Big (k' % 10)):=HBK.out.mono (Nat.mod_le _ _)
          go_step
          go_wp2_with fail
          refine (dec_zero _ A6 n6 c6 (k' % 10) R6.out HBR.out).mono ?_
          rintro e w5 ⟨rfl,hb5⟩
          have HB5:=qh (HB4.out.trans (hb5.mono HB4.out.size))
          have E0:=qh (C0.out.below hb5 C0.out.lt)
          have E1:=qh (C1.out.below hb5 C1.out.lt)
          have E5:=qh (D5.out.below hb5 D5.out.lt)
          have Q5:=qh (R5.out.below hb5 ql)
          have T4:=qh (S4.out.below hb5 ql)
          obtain ⟨k0,k1,k2,-,f1,f2⟩:=E0.out.cf3
          have q5:=E5.out.c1
          clear hb5 q6
          by_cases h10:k' % 10=0
          · have HM0:=qh h10
            have e10:decide (k' % 10=0)=true:=by simpa using h10
            rw [e10]
            clear e10 h10
            have hd:Hold w5 w.heap.size 26 3 w5:=Hold.start E0.out (by simp [No32])
            have y5:=qh ((Q5.out.hset hd 1 (.slice A5 n5 c5)).hset (hd.set 1 (.slice A5 n5 c5) (by simp)) 2 (.int .i64 (s:Int)))
            have x0:=qh ((E0.out.put 1 (.slice A5 n5 c5)).put 2 (.int .i64 (s:Int)))
            have x1:=qh ((E1.out.far ⟨w.heap.size,1,none⟩ (.slice A5 n5 c5) (by simp)).far ⟨w.heap.size,2,none⟩ (.int .i64 (s:Int)) (by simp))
            have xb:=qh (HB5.out.trans (((hd.set 1 (.slice A5 n5 c5) (by simp)).set 2 (.int .i64 (s:Int)) (by simp)).below ql))
            clear hd
            dsimp only
            go_wp2_with fail
            go_roundg s
            case measure=>omega
            case rel=>exact ⟨k' / 10,s,rfl,by omega,Nat.le_trans (Nat.div_le_self _ _) HKK.out,by rw [← HSH.out];simp [short,HM0.out],_,_,_,x0.out,x1.out,y5.out,xb.out⟩
          · have HM0:=qh h10
            have e10:decide (k' % 10=0)=false:=by simpa using h10
            rw [e10]
            clear e10 h10
            dsimp only
            go_wp2_with fail
            go_meet
            have e2:short k' (s+1)=(k',s+1):=by simp [short,HM0.out]
            rw [← HSH.out,e2]
            exact ⟨_,_,_,E0.out,E1.out,T4.out,HB5.out⟩
  case rest =>
    obtain ⟨A3,n3,c3,b0,b1,hs3,hb3⟩:=hcut
    obtain ⟨k0,k1,k2⟩:=b0.c3
    obtain ⟨m0,m1,m2,f0,f1,f2⟩:=b1.cf3
    have HSt:Hid (Hold wc (w.heap.size+1) 26 3 wc):=Hold.start b1 (by simp [No32])
    have HB3:=qh hb3
    have S3:=qh hs3
    clear b0 b1 hs3 hb3
    obtain ⟨s9,hs9⟩:∃ s9,s9=(short k sc).2:=⟨_,rfl⟩
    have HS9:=qh hs9
    rw [← hs9] at k2
    clear hs9
    go_step
    go_wp2_with fail
    have hh:=HSt.out
    have hf:=hh.fill3 (.bool false) (.slice A3 n3 c3) (.int .i64 s9)
    have hg:=(((hh.set 0 (.bool false) (by simp)).set 1 (.slice A3 n3 c3) (by simp)).set 2 (.int .i64 s9) (by simp))
    have hs:=(((S3.out.hset hh 0 (.bool false)).hset (hh.set 0 (.bool false) (by simp)) 1 (.slice A3 n3 c3)).hset ((hh.set 0 (.bool false) (by simp)).set 1 (.slice A3 n3 c3) (by simp)) 2 (.int .i64 s9))
    obtain ⟨r0,r1,r2⟩:=hf.c3
    generalize (((wc.setCell ⟨w.heap.size+1,0,none⟩ (.bool false)).setCell ⟨w.heap.size+1,1,none⟩ (.slice A3 n3 c3)).setCell ⟨w.heap.size+1,2,none⟩ (.int .i64 s9))=wf at *
    refine bodyPost_ret (v:=.agg #[.bool false,.slice A3 n3 c3,.int .i64 s9]) (by simp [results,Tryz.results49,go_sem,r0,r1,r2];try rfl) rfl ?_
    exact ⟨⟨_,_,_,by rw [HS9.out],hs⟩,HB3.out.trans (hg.below (by omega))⟩
end Go.Proofs.YtdgleeglndcjhaaGreatDoor
