import Derived.Test.YtdgleeglndcjhaaGreatDoorX19
import Derived.Test.YtdgleeglndcjhaaGreatDoorX17
set_option linter.unusedSimpArgs false
set_option linter.unusedVariables false
set_option maxHeartbeats 2000000
set_option maxRecDepth 100000
namespace Go.Proofs.YtdgleeglndcjhaaGreatDoor
open Go.RowKit
structure RF (w:World) (b:Bool) (A:Option Addr) (n c:Nat) (A':Option Addr) (n' c':Nat) (p:Int) (q k:Nat):Prop where
  ex:∃ (p':Int) (q':Nat),0<q∧0<q'∧p' * q=p * q'∧RZ w b A n c p'∧SN w A' n' c' q'∧p'.natAbs<2 ^ k∧q'<2 ^ k
def RetQ (e:Ending) (w':World) (p:Int) (q k:Nat):Prop:=∃ b A n c A' n' c',e=.returned (.agg #[.bool b,.slice A n c,.slice A' n' c'])∧RF w' b A n c A' n' c' p q k
def RetQB (e:Ending) (w':World) (p:Int) (q k:Nat):Prop:=∃ b A n c A' n' c',e=.returned (.tuple #[.agg #[.bool b,.slice A n c,.slice A' n' c'],.bool true])∧RF w' b A n c A' n' c' p q k
theorem RZ.below {w w':World} {b:Bool} {A:Option Addr} {n c B:Nat} {x:Int} (h:RZ w b A n c x) (hb:Below B w w') (hB:w.heap.size≤B):RZ w' b A n c x:=⟨h.sign,h.sn.below hb hB⟩
theorem RF.below {w w':World} {b:Bool} {A A':Option Addr} {n c n' c' B:Nat} {p:Int} {q k:Nat} (h:RF w b A n c A' n' c' p q k) (hb:Below B w w') (hB:w.heap.size≤B):RF w' b A n c A' n' c' p q k:=by
  obtain ⟨p',q',h1,h2,h3,h4,h5,h6,h7⟩:=h.ex
  exact ⟨⟨p',q',h1,h2,h3,h4.below hb hB,h5.below hb hB,h6,h7⟩⟩
theorem RF.mono {w:World} {b:Bool} {A A':Option Addr} {n c n' c':Nat} {p:Int} {q k m:Nat} (h:RF w b A n c A' n' c' p q k) (hm:k≤m):RF w b A n c A' n' c' p q m:=by
  obtain ⟨p',q',h1,h2,h3,h4,h5,h6,h7⟩:=h.ex
  exact ⟨⟨p',q',h1,h2,h3,h4,h5,Nat.lt_of_lt_of_le h6 (Nat.pow_le_pow_right (Nat.succ_pos 1) hm),Nat.lt_of_lt_of_le h7 (Nat.pow_le_pow_right (Nat.succ_pos 1) hm)⟩⟩
theorem rat_one (w:World):Calls Tryz.prog 146 #[] w fun e w'=>RetN e w' 1∧Below w.heap.size w w':=by
  go_enter Tryz.func146,Tryz.ntmps146
  go_wp2_with fail
  refine calls_letter (fun w1=>Blk w1 w.heap.size 24 [.slice none 0 0]∧Below w.heap.size w w1) ⟨(Blk.made _ 24 _ _ _ (by simp) rfl),((Below.refl _ _).alloc (by simp;try omega) _)⟩ ?_
  rintro w1 ⟨b0,hb⟩
  obtain ⟨k00,f00⟩:=b0.cf1
  have HB:=qh hb
  have H0:=qh b0
  have hz:=b0.lt
  clear hb b0
  refine (natOf _ 1 (by omega)).mono ?_
  rintro e w2 ⟨⟨A2,n2,c2,rfl,hr2⟩,hb2⟩
  have HSt:Hid (Hold w1 w.heap.size 24 1 w1):=Hold.start H0.o (by simp [No32])
  have hh0:=HSt.o.call hb2
  have k0:=hh0.cell 0 (by omega)
  have f0:=hh0.frozen 0
  clear k00 f00
  dsimp only
  go_wp2_with fail
  have hh:=(HSt.o.call hb2)
  have hf:=hh.fill1 (.slice A2 n2 c2)
  have hg:=(hh.set 0 (.slice A2 n2 c2) (by simp))
  have hs:=(hr2.hset hh 0 (.slice A2 n2 c2))
  have r0:=hf.c1
  generalize (w2.setCell ⟨w.heap.size,0,none⟩ (.slice A2 n2 c2))=wf at *
  refine bodyPost_ret (v:=.agg #[.slice A2 n2 c2]) (by simp [results,Tryz.results146,go_sem,r0];try rfl) rfl ?_
  exact ⟨⟨_,_,_,rfl,hs⟩,HB.o.trans (hg.below (by omega))⟩
theorem of_terms {p:Int} {q k:Nat} (hq:0<q) (hp:p.natAbs<2 ^ k) (hk:q<2 ^ k) :
    ∃ p':Int,p'.natAbs=p.natAbs / Nat.gcd p.natAbs q∧p' * q=p * (q / Nat.gcd p.natAbs q:Nat)∧0<q / Nat.gcd p.natAbs q∧p'.natAbs<2 ^ k∧q / Nat.gcd p.natAbs q<2 ^ k∧(p<0→decide (p'<0)=!decide (p.natAbs / Nat.gcd p.natAbs q=0))∧(¬ p<0→decide (p'<0)=false):=by
  have hg:0<Nat.gcd p.natAbs q:=Nat.gcd_pos_of_pos_right _ hq
  have h1:=Nat.gcd_dvd_left p.natAbs q
  have h2:=Nat.gcd_dvd_right p.natAbs q
  generalize Nat.gcd p.natAbs q=g at *
  obtain ⟨a,ha⟩:=h1
  obtain ⟨d,rfl⟩:=h2
  have hd:0<d:=Nat.pos_of_mul_pos_left hq
  have e1:p.natAbs / g=a:=by rw [ha,Nat.mul_div_cancel_left _ hg]
  have e2:g * d / g=d:=Nat.mul_div_cancel_left _ hg
  rw [e1,e2]
  have la:a≤p.natAbs:=by rw [ha];exact Nat.le_mul_of_pos_left _ hg
  have ld:d≤g * d:=Nat.le_mul_of_pos_left _ hg
  by_cases hp0:p<0
  · refine ⟨-(a:Int),by omega,?_,hd,by omega,by omega,fun _=>?_,fun h=>absurd hp0 h⟩
    · have e3:p=-((g * a:Nat):Int):=by omega
      rw [e3];push_cast;grind
    · by_cases h:a=0
      · simp [h]
      · simp [h];omega
  · refine ⟨(a:Int),by omega,?_,hd,by omega,by omega,fun h=>absurd h hp0,fun _=>by simp⟩
    have e3:p=((g * a:Nat):Int):=by omega
    rw [e3];push_cast;grind
theorem rat_Of (w:World) (b:Bool) (A A':Option Addr) (n c n' c':Nat) (p:Int) (q k:Nat) (hx:RZ w b A n c p) (hy:SN w A' n' c' q) (hq:0<q) (hpk:p.natAbs<2 ^ k) (hqk:q<2 ^ k) (hk:k≤1000000) :
    Calls Tryz.prog 87 #[.agg #[.bool b,.slice A n c],.agg #[.slice A' n' c']] w fun e w'=>RetQB e w' p q k∧Below w.heap.size w w':=by
  have HX:=qh hx
  have HY:=qh hy
  have HBP:Hid (Big p.natAbs):=big_pow hpk (by omega)
  have HBQ:Hid (Big q):=big_pow hqk (by omega)
  have HG0:Hid (0<Nat.gcd p.natAbs q):=Nat.gcd_pos_of_pos_right _ hq
  have HBG:Hid (Big (Nat.gcd p.natAbs q)):=HBQ.o.mono (Nat.le_of_dvd hq (Nat.gcd_dvd_right _ _))
  have HT:=qh (of_terms hq hpk hqk)
  have e0:decide (q=0)=false:=by rw [decide_eq_false_iff_not];omega
  have HQ:=qh hq
  clear hx hy hpk hqk hk hq
  go_enter Tryz.func87,Tryz.ntmps87
  go_wp2_with fail
  refine calls_letter (fun w1=>Blk w1 w.heap.size 35 [.bool b,.slice A n c]∧Blk w1 (w.heap.size+1) 24 [.slice A' n' c']∧Blk w1 (w.heap.size+1+1) 37 [.bool false,.slice none 0 0,.slice none 0 0]∧Below w.heap.size w w1) ⟨(((Blk.made _ 35 _ _ _ (by simp) rfl).alloc _).alloc _),((Blk.made _ 24 _ _ _ (by simp) rfl).alloc _),(Blk.made _ 37 _ _ _ (by simp) rfl),((((Below.refl _ _).alloc (by simp;try omega) _).alloc (by simp;try omega) _).alloc (by simp;try omega) _)⟩ ?_
  rintro w1 ⟨b0,b1,b2,hb⟩
  obtain ⟨k00,k01⟩:=b0.c2
  have k10:=b1.c1
  obtain ⟨k20,k21,k22⟩:=b2.c3
  have HB:=qh hb
  have H0:=qh b0
  have H1:=qh b1
  have H2:=qh b2
  have hz:=b2.lt
  clear hb b0 b1 b2
  refine (rat_zero _ A' n' c' q (HY.o.below HB.o ql) HBQ.o).mono ?_
  rintro e w2 ⟨rfl,hb2⟩
  rw [e0]
  have hz2:=hb2.size
  obtain ⟨-,m1⟩:=(H0.o.below hb2 (by omega)).c2
  have m2:=(H1.o.below hb2 (by omega)).c1
  clear k00 k01 k10 k20 k21 k22
  dsimp only
  go_wp2_with fail
  refine (natGcd _ A A' n c n' c' p.natAbs q ((HX.o.sn.below HB.o ql).below hb2 ql) ((HY.o.below HB.o ql).below hb2 ql) HBP.o HBQ.o).mono ?_
  rintro e w3 ⟨⟨A3,n3,c3,rfl,hr3⟩,hb3⟩
  have hz3:=hb3.size
  obtain ⟨-,m3⟩:=(((H0.o.below hb2 (by omega)).below hb3 (by omega)).alloc (.cells #[.slice A3 n3 c3] 24)).c2
  have m4:=(((H1.o.below hb2 (by omega)).below hb3 (by omega)).alloc (.cells #[.slice A3 n3 c3] 24)).c1
  clear m1 m2
  dsimp only
  go_wp2_with fail
  generalize hg6:w3.heap.size=g6
  refine calls_letter (fun w4=>Blk w4 w.heap.size 35 [.bool b,.slice A n c]∧Blk w4 (w.heap.size+1) 24 [.slice A' n' c']∧Blk w4 (w.heap.size+1+1) 37 [.bool false,.slice none 0 0,.slice none 0 0]∧Blk w4 g6 24 [.slice A3 n3 c3]∧Below w.heap.size w w4∧SN w4 A n c p.natAbs∧SN w4 A' n' c' q∧SN w4 A3 n3 c3 (Nat.gcd p.natAbs q))
    ⟨((H0.o.below hb2 (by omega)).below hb3 (by omega)).alloc _,((H1.o.below hb2 (by omega)).below hb3 (by omega)).alloc _,((H2.o.below hb2 (by omega)).below hb3 (by omega)).alloc _,Blk.made _ 24 _ _ _ hg6.symm rfl,((HB.o.trans (hb2.mono (by omega))).trans (hb3.mono (by omega))).alloc (by omega) _,
     (((HX.o.sn.below HB.o ql).below hb2 ql).below hb3 ql).below ((Below.refl _ _).alloc ql _) ql,(((HY.o.below HB.o ql).below hb2 ql).below hb3 ql).below ((Below.refl _ _).alloc ql _) ql,hr3.below ((Below.refl _ _).alloc ql _) ql⟩ ?_
  clear m3 m4 hr3 hb3 hb2 hz2 hz3 H0 H1 H2 HB hz hg6
  rintro w4 ⟨H0,H1,H2,H6,HB,S1,S2,S3⟩
  refine (natDiv _ A A3 n c n3 c3 p.natAbs (Nat.gcd p.natAbs q) S1 S3 HBP.o HBG.o HG0.o).mono ?_
  rintro e w5 ⟨⟨A5,n5,c5,A6,n6,c6,rfl,hr5,-⟩,hb5⟩
  have hz5:=hb5.size
  have hl2:=H2.lt
  have hl6:=H6.lt
  have m1:=(((H1.below hb5 H1.lt).alloc (.cells #[.slice A5 n5 c5] 24)).alloc (.cells #[.slice A6 n6 c6] 24)).c1
  have m6:=(((H6.below hb5 H6.lt).alloc (.cells #[.slice A5 n5 c5] 24)).alloc (.cells #[.slice A6 n6 c6] 24)).c1
  dsimp only
  go_wp2_with fail
  generalize hg7:w5.heap.size=g7
  refine calls_letter (fun w7=>Blk w7 w.heap.size 35 [.bool b,.slice A n c]∧Blk w7 (w.heap.size+1+1) 37 [.bool false,.slice none 0 0,.slice none 0 0]∧Blk w7 g7 24 [.slice A5 n5 c5]∧Below w.heap.size w w7∧SN w7 A' n' c' q∧SN w7 A3 n3 c3 (Nat.gcd p.natAbs q)∧SN w7 A5 n5 c5 (p.natAbs / Nat.gcd p.natAbs q))
    ⟨((H0.below hb5 H0.lt).alloc _).alloc _,((H2.below hb5 H2.lt).alloc _).alloc _,(Blk.made _ 24 _ _ _ hg7.symm rfl).alloc _,((HB.trans (hb5.mono HB.size)).alloc (by omega) _).alloc (by simp;omega) _,
     (S2.below hb5 ql).below (((Below.refl _ _).alloc ql _).alloc (by simp) _) ql,(S3.below hb5 ql).below (((Below.refl _ _).alloc ql _).alloc (by simp) _) ql,hr5.below (((Below.refl _ _).alloc ql _).alloc (by simp) _) ql⟩ ?_
  have hgg:w.heap.size+1+1<g7:=by omega
  clear m1 m6 hr5 hb5 hz5 hl2 hl6 H0 H1 H2 H6 HB S1 S2 S3 hg7
  rintro w7 ⟨H0,H2,H7,HB,S2,S3,S5⟩
  refine (natDiv _ A' A3 n' c' n3 c3 q (Nat.gcd p.natAbs q) S2 S3 HBQ.o HBG.o HG0.o).mono ?_
  rintro e w8 ⟨⟨A8,n8,c8,A9,n9,c9,rfl,hr8,-⟩,hb8⟩
  have hl7:=H7.lt
  have hz8:=hb8.size
  dsimp only
  go_wp2_with fail
  generalize hg8:w8.heap.size=g8
  refine wp_letter (fun w9=>Blk w9 w.heap.size 35 [.bool b,.slice A n c]∧Blk w9 (w.heap.size+1+1) 37 [.bool false,.slice none 0 0,.slice none 0 0]∧Blk w9 g7 24 [.slice A5 n5 c5]∧Blk w9 g8 24 [.slice A8 n8 c8]∧Below w.heap.size w w9∧SN w9 A5 n5 c5 (p.natAbs / Nat.gcd p.natAbs q)∧SN w9 A8 n8 c8 (q / Nat.gcd p.natAbs q))
    ⟨((H0.below hb8 H0.lt).alloc _).alloc _,((H2.below hb8 H2.lt).alloc _).alloc _,((H7.below hb8 H7.lt).alloc _).alloc _,(Blk.made _ 24 _ _ _ hg8.symm rfl).alloc _,((HB.trans (hb8.mono HB.size)).alloc (by omega) _).alloc (by simp;omega) _,
     (S5.below hb8 ql).below (((Below.refl _ _).alloc ql _).alloc (by simp) _) ql,hr8.below (((Below.refl _ _).alloc ql _).alloc (by simp) _) ql⟩ ?_
  have hgh:g7<g8:=by omega
  clear hr8 hb8 hz8 hl7 H0 H2 H7 HB S2 S3 S5 hg8
  rintro w9 ⟨h0,h2,h7,h8,hb,s5,s8⟩
  have H0:=qh h0
  have H2:=qh h2
  have H7:=qh h7
  have H8:=qh h8
  have HB:=qh hb
  have S5:=qh s5
  have S8:=qh s8
  have hz9:=h8.lt
  clear h0 h2 h7 h8 hb s5 s8
  have HSt:Hid (Hold w9 (w.heap.size+1+1) 37 3 w9):=Hold.start H2.o (by simp [No32])
  obtain ⟨P,hp1,hp2,hp3,hp4,hp5,hp6,hp7⟩:=HT.o
  have HBN:Hid (Big (p.natAbs / Nat.gcd p.natAbs q)):=HBP.o.mono (Nat.div_le_self _ _)
  generalize p.natAbs / Nat.gcd p.natAbs q=m at *
  have HP1:=qh hp1
  have HP2:=qh hp2
  have HP3:=qh hp3
  have HP4:=qh hp4
  have HP5:=qh hp5
  have HP6:=qh hp6
  have HP7:=qh hp7
  have HXS:=qh HX.o.sign
  clear hp1 hp2 hp3 hp4 hp5 hp6 hp7 HT HX HY HBP HBQ HBG HG0
  cases b with
  | true =>
    have HKK:Hid (∀ w',Hold w9 (w.heap.size+1+1) 37 3 w'→w'.cell? ⟨w.heap.size,0,none⟩=some (.bool true)∧w'.cell? ⟨w.heap.size,1,none⟩=some (.slice A n c)∧w'.cell? ⟨g7,0,none⟩=some (.slice A5 n5 c5)∧w'.cell? ⟨g8,0,none⟩=some (.slice A8 n8 c8)∧w'.cell? ⟨w.heap.size+1+1,0,none⟩=some (cellAt w' ⟨w.heap.size+1+1,0,none⟩)∧w'.cell? ⟨w.heap.size+1+1,1,none⟩=some (cellAt w' ⟨w.heap.size+1+1,1,none⟩)∧w'.cell? ⟨w.heap.size+1+1,2,none⟩=some (cellAt w' ⟨w.heap.size+1+1,2,none⟩)∧w'.frozen? ⟨w.heap.size+1+1,0,none⟩=false∧w'.frozen? ⟨w.heap.size+1+1,1,none⟩=false∧w'.frozen? ⟨w.heap.size+1+1,2,none⟩=false∧Hold w9 (w.heap.size+1+1) 37 3 w'):=fun w' h=>⟨(h.blk H0.o (by omega)).cell 0,(h.blk H0.o (by omega)).cell 1,(h.blk H7.o (by omega)).cell 0,(h.blk H8.o (by omega)).cell 0,h.cell 0 (by omega),h.cell 1 (by omega),h.cell 2 (by omega),h.frozen 0,h.frozen 1,h.frozen 2,h⟩
    have HSt:Hid (Hold w9 (w.heap.size+1+1) 37 3 w9):=Hold.start H2.o (by simp [No32])
    go_region_held3 (fun w'=>w'.cell? ⟨w.heap.size,0,none⟩=some (.bool true)∧w'.cell? ⟨w.heap.size,1,none⟩=some (.slice A n c)∧w'.cell? ⟨g7,0,none⟩=some (.slice A5 n5 c5)∧w'.cell? ⟨g8,0,none⟩=some (.slice A8 n8 c8)∧w'.cell? ⟨w.heap.size+1+1,0,none⟩=some (cellAt w' ⟨w.heap.size+1+1,0,none⟩)∧w'.cell? ⟨w.heap.size+1+1,1,none⟩=some (cellAt w' ⟨w.heap.size+1+1,1,none⟩)∧w'.cell? ⟨w.heap.size+1+1,2,none⟩=some (cellAt w' ⟨w.heap.size+1+1,2,none⟩)∧w'.frozen? ⟨w.heap.size+1+1,0,none⟩=false∧w'.frozen? ⟨w.heap.size+1+1,1,none⟩=false∧w'.frozen? ⟨w.heap.size+1+1,2,none⟩=false∧Hold w9 (w.heap.size+1+1) 37 3 w')
      (first|exact HKK.o _ HSt.o.drew|(go_split_ands;first|exact HKK.o _ (Hold.call ‹Hold w9 (w.heap.size+1+1) 37 3 _› hb10)|exact HKK.o _ (((‹Hold w9 (w.heap.size+1+1) 37 3 _›.set 0 _ (by simp)).set 1 _ (by simp)).set 2 _ (by simp))))
      (first|((with_reducible refine (rat_zero _ A5 n5 c5 _ ?_ HBN.o).mono ?_);(refine Hold.sn (W:=w9) (g:=w.heap.size+1+1) (t:=37) (n:=3) ?_ S5.o;(go_split_ands;assumption));rintro e w10 ⟨rfl,hb10⟩))
    have hpn:p<0:=by have:=HXS.o;simpa using this.symm
    have hsg:RZ w10 (!decide (m=0)) A5 n5 c5 P:=⟨by rw [HP6.o hpn],by rw [HP1.o];exact (HSt.o.drew.call hb10).sn S5.o⟩
    have hh:=(HSt.o.drew.call hb10)
    have hf:=hh.fill3 (.bool (!decide (m=0))) (.slice A5 n5 c5) (.slice A8 n8 c8)
    have hg:=(((hh.set 0 (.bool (!decide (m=0))) (by simp)).set 1 (.slice A5 n5 c5) (by simp)).set 2 (.slice A8 n8 c8) (by simp))
    have hs:=(((hsg.sn.hset hh 0 (.bool (!decide (m=0)))).hset (hh.set 0 (.bool (!decide (m=0))) (by simp)) 1 (.slice A5 n5 c5)).hset ((hh.set 0 (.bool (!decide (m=0))) (by simp)).set 1 (.slice A5 n5 c5) (by simp)) 2 (.slice A8 n8 c8))
    have hs8:=(((((HSt.o.drew.call hb10).sn S8.o).hset hh 0 (.bool (!decide (m=0)))).hset (hh.set 0 (.bool (!decide (m=0))) (by simp)) 1 (.slice A5 n5 c5)).hset ((hh.set 0 (.bool (!decide (m=0))) (by simp)).set 1 (.slice A5 n5 c5) (by simp)) 2 (.slice A8 n8 c8))
    obtain ⟨r0,r1,r2⟩:=hf.c3
    generalize (((w10.setCell ⟨w.heap.size+1+1,0,none⟩ (.bool (!decide (m=0)))).setCell ⟨w.heap.size+1+1,1,none⟩ (.slice A5 n5 c5)).setCell ⟨w.heap.size+1+1,2,none⟩ (.slice A8 n8 c8))=wf at *
    go_wp2
    refine bodyPost_ret (v:=.tuple #[.agg #[.bool (!decide (m=0)),.slice A5 n5 c5,.slice A8 n8 c8],.bool true]) (by simp [results,Tryz.results87,go_sem,r0,r1,r2];try rfl) rfl ?_
    exact ⟨⟨_,_,_,_,_,_,_,rfl,⟨⟨P,_,HQ.o,HP3.o,HP2.o,⟨hsg.sign,hs⟩,hs8,HP4.o,HP5.o⟩⟩⟩,HB.o.trans (hg.below (by omega))⟩
  | false =>
    have k0:=H0.o.c1
    have k7:=H7.o.c1
    have k8:=H8.o.c1
    obtain ⟨k2,k22,k23,f2,f22,f23⟩:=H2.o.cf3
    have hpn:¬ p<0:=by have:=HXS.o;simpa using this.symm
    go_region
    have hh:=HSt.o
    have hf:=(hh.fill3 (.bool false) (.slice A5 n5 c5) (.slice A8 n8 c8)).drew
    have hg:=(((hh.set 0 (.bool false) (by simp)).set 1 (.slice A5 n5 c5) (by simp)).set 2 (.slice A8 n8 c8) (by simp)).drew
    have hs:=((((show SN w9 A5 n5 c5 P.natAbs by rw [HP1.o];exact S5.o).hset hh 0 (.bool false)).hset (hh.set 0 (.bool false) (by simp)) 1 (.slice A5 n5 c5)).hset ((hh.set 0 (.bool false) (by simp)).set 1 (.slice A5 n5 c5) (by simp)) 2 (.slice A8 n8 c8)).drew
    have hs8:=(((S8.o.hset hh 0 (.bool false)).hset (hh.set 0 (.bool false) (by simp)) 1 (.slice A5 n5 c5)).hset ((hh.set 0 (.bool false) (by simp)).set 1 (.slice A5 n5 c5) (by simp)) 2 (.slice A8 n8 c8)).drew
    obtain ⟨r0,r1,r2⟩:=hf.c3
    generalize (((w9.setCell ⟨w.heap.size+1+1,0,none⟩ (.bool false)).setCell ⟨w.heap.size+1+1,1,none⟩ (.slice A5 n5 c5)).setCell ⟨w.heap.size+1+1,2,none⟩ (.slice A8 n8 c8)).drew=wf at *
    go_wp2
    refine bodyPost_ret (v:=.tuple #[.agg #[.bool false,.slice A5 n5 c5,.slice A8 n8 c8],.bool true]) (by simp [results,Tryz.results87,go_sem,r0,r1,r2];try rfl) rfl ?_
    exact ⟨⟨_,_,_,_,_,_,_,rfl,⟨⟨P,_,HQ.o,HP3.o,HP2.o,⟨(HP7.o hpn).symm,hs⟩,hs8,HP4.o,HP5.o⟩⟩⟩,HB.o.trans (hg.below (by omega))⟩
theorem rat_plain (w:World) (b:Bool) (A A':Option Addr) (n c n' c':Nat) (p:Int) (q k:Nat) (h:RF w b A n c A' n' c' p q k) (hk:k≤500000) :
    Calls Tryz.prog 144 #[.agg #[.bool b,.slice A n c,.slice A' n' c']] w fun e w'=>RetQ e w' p q k∧Below w.heap.size w w':=by
  obtain ⟨p',q',h1,h2,h3,h4,h5,h6,h7⟩:=h.ex
  have HX:=qh h4
  have HY:=qh h5
  have H1':=qh h1
  have H2':=qh h2
  have H3':=qh h3
  have H6':=qh h6
  have H7':=qh h7
  have HK:=qh hk
  clear h h1 h2 h3 h4 h5 h6 h7 hk
  go_enter Tryz.func144,Tryz.ntmps144
  go_wp2_with fail
  refine calls_letter (fun w1=>Blk w1 w.heap.size 37 [.bool b,.slice A n c,.slice A' n' c']∧Blk w1 (w.heap.size+1) 37 [.bool false,.slice none 0 0,.slice none 0 0]∧Below w.heap.size w w1) ⟨((Blk.made _ 37 _ _ _ (by simp) rfl).alloc _),(Blk.made _ 37 _ _ _ (by simp) rfl),(((Below.refl _ _).alloc (by simp;try omega) _).alloc (by simp;try omega) _)⟩ ?_
  rintro w1 ⟨b0,b1,hb⟩
  obtain ⟨k00,k01,k02⟩:=b0.c3
  obtain ⟨k10,k11,k12⟩:=b1.c3
  have HB:=qh hb
  have H0:=qh b0
  have H1:=qh b1
  have hz:=b1.lt
  clear hb b0 b1
  refine (rat_Of _ b A A' n c n' c' p' q' k (HX.o.below HB.o ql) (HY.o.below HB.o ql) H2'.o H6'.o H7'.o (by have:=HK.o;omega)).mono ?_
  rintro e w2 ⟨⟨b2,A2,n2,c2,A3,n3,c3,rfl,hr⟩,hb2⟩
  have HSt:Hid (Hold w1 (w.heap.size+1) 37 3 w1):=Hold.start H1.o (by simp [No32])
  have hh0:=(HSt.o.call hb2)
  have k0:=hh0.cell 0 (by omega)
  have f0:=hh0.frozen 0
  have k1:=hh0.cell 1 (by omega)
  have f1:=hh0.frozen 1
  have k2:=hh0.cell 2 (by omega)
  have f2:=hh0.frozen 2
  have hz2:=hb2.size
  have g0:=(H1.o.below hb2 (by omega)).alloc (.cells #[.bool b2,.slice A2 n2 c2,.slice A3 n3 c3] 37)
  obtain ⟨g00,g01,g02,g03,g04,g05⟩:=g0.cf3
  have hg0:=qh g0
  clear k00 k01 k02 k10 k11 k12 g0 k0 k1 k2 f0 f1 f2
  dsimp only
  go_wp2_with fail
  have hb3:Below w2.heap.size w2 (w2.alloc (.cells #[.bool b2,.slice A2 n2 c2,.slice A3 n3 c3] 37)):=(Below.refl _ _).alloc ql _
  obtain ⟨p2,q2,e1,e2,e3,e4,e5,e6,e7⟩:=hr.ex
  have e4':=e4.below hb3 ql
  have e5':=e5.below hb3 ql
  have ee:p2 * q=p * q2:=by
    have a1:=H3'.o
    have a2:(0:Int)<(q':Int):=by have:=H2'.o;omega
    have a3:(p2 * q - p * q2) * q'=0:=by grind
    rcases Int.mul_eq_zero.1 a3 with h|h <;> omega
  have hh:=((HSt.o.call hb2).call hb3)
  have hf:=hh.fill3 (.bool b2) (.slice A2 n2 c2) (.slice A3 n3 c3)
  have hg:=(((hh.set 0 (.bool b2) (by simp)).set 1 (.slice A2 n2 c2) (by simp)).set 2 (.slice A3 n3 c3) (by simp))
  have hs:=(((e4'.sn.hset hh 0 (.bool b2)).hset (hh.set 0 (.bool b2) (by simp)) 1 (.slice A2 n2 c2)).hset ((hh.set 0 (.bool b2) (by simp)).set 1 (.slice A2 n2 c2) (by simp)) 2 (.slice A3 n3 c3))
  have hs2:=(((e5'.hset hh 0 (.bool b2)).hset (hh.set 0 (.bool b2) (by simp)) 1 (.slice A2 n2 c2)).hset ((hh.set 0 (.bool b2) (by simp)).set 1 (.slice A2 n2 c2) (by simp)) 2 (.slice A3 n3 c3))
  obtain ⟨r0,r1,r2⟩:=hf.c3
  generalize ((((w2.alloc (.cells #[.bool b2,.slice A2 n2 c2,.slice A3 n3 c3] 37)).setCell ⟨w.heap.size+1,0,none⟩ (.bool b2)).setCell ⟨w.heap.size+1,1,none⟩ (.slice A2 n2 c2)).setCell ⟨w.heap.size+1,2,none⟩ (.slice A3 n3 c3))=wf at *
  refine bodyPost_ret (v:=.agg #[.bool b2,.slice A2 n2 c2,.slice A3 n3 c3]) (by simp [results,Tryz.results144,go_sem,r0,r1,r2];try rfl) rfl ?_
  exact ⟨⟨_,_,_,_,_,_,_,rfl,⟨⟨p2,q2,H1'.o,e2,ee,⟨e4'.sign,hs⟩,hs2,e6,e7⟩⟩⟩,HB.o.trans (hg.below (by omega))⟩
theorem sign_terms {p p':Int} {q q':Nat} (hq:0<q) (hq':0<q') (e:p' * q=p * q'):p'.sign=p.sign:=by
  have a1:(0:Int)<q:=by omega
  have a2:(0:Int)<q':=by omega
  rcases Int.lt_trichotomy p 0 with h|h|h
  · rw [Int.sign_eq_neg_one_of_neg h]
    have h2:p * q'<0:=Int.mul_neg_of_neg_of_pos h a2
    rw [← e] at h2
    rcases Int.lt_or_le p' 0 with h3|h3
    · exact Int.sign_eq_neg_one_of_neg h3
    · have:=Int.mul_nonneg h3 (Int.le_of_lt a1);omega
  · subst h
    rw [Int.zero_mul] at e
    rcases Int.mul_eq_zero.1 e with h|h
    · rw [h]
    · omega
  · rw [Int.sign_eq_one_of_pos h]
    have h2:0<p * q':=Int.mul_pos h a2
    rw [← e] at h2
    rcases Int.lt_or_le 0 p' with h3|h3
    · exact Int.sign_eq_one_of_pos h3
    · have:=Int.mul_nonneg (show 0≤-p' by omega) (Int.le_of_lt a1)
      rw [Int.neg_mul] at this;omega
theorem nat_terms {p:Nat} {p':Int} {q q':Nat} (hq:0<q) (hq':0<q') (e:p' * q=p * q'):0≤p'∧p'.natAbs * q=p * q':=by
  have a1:(0:Int)<q:=by omega
  have h:0≤p':=by
    rcases Int.lt_or_le p' 0 with h|h
    · have h2:p' * q<0:=Int.mul_neg_of_neg_of_pos h a1
      have h3:(0:Int)≤(p:Int) * q':=Int.mul_nonneg (by omega) (by omega)
      omega
    · exact h
  refine ⟨h,?_⟩
  have h4:((p'.natAbs * q:Nat):Int)=((p * q':Nat):Int):=by
    push_cast
    rw [show (p'.natAbs:Int)=p' by omega] at *
    first|exact e|(rw [← e];congr 1;omega)
  omega
theorem floor_terms {p p' q q':Nat} (hq:0<q) (hq':0<q') (e:p' * q=p * q'):p' / q'=p / q:=by
  rw [← Nat.mul_div_mul_right p' q' hq,← Nat.mul_div_mul_right p q hq',e,Nat.mul_comm q' q]
theorem rat_Int (w:World) (n:Nat) (hn:n<9223372036854775808) :
    Calls Tryz.prog 94 #[.int .i64 n] w fun e w'=>RetQ e w' n 1 63∧Below w.heap.size w w':=by
  have HN:=qh hn
  clear hn
  go_enter Tryz.func94,Tryz.ntmps94
  go_wp2_with fail
  refine calls_letter (fun w1=>Blk w1 w.heap.size 37 [.bool false,.slice none 0 0,.slice none 0 0]∧Below w.heap.size w w1) ⟨(Blk.made _ 37 _ _ _ (by simp) rfl),((Below.refl _ _).alloc (by simp;try omega) _)⟩ ?_
  rintro w1 ⟨b0,hb⟩
  obtain ⟨k00,k01,k02⟩:=b0.c3
  have HB:=qh hb
  have H0:=qh b0
  have hz:=b0.lt
  clear hb b0
  refine (num_Of _ n HN.o).mono ?_
  rintro e w2 ⟨⟨b2,A2,n2,c2,rfl,hr⟩,hb2⟩
  clear k00 k01 k02
  dsimp only
  go_wp2_with fail
  refine (rat_one _).mono ?_
  rintro e w3 ⟨⟨A3,n3,c3,rfl,hr3⟩,hb3⟩
  have HSt:Hid (Hold w1 w.heap.size 37 3 w1):=Hold.start H0.o (by simp [No32])
  have hh0:=((HSt.o.call hb2).call hb3)
  have k0:=hh0.cell 0 (by omega)
  have f0:=hh0.frozen 0
  have k1:=hh0.cell 1 (by omega)
  have f1:=hh0.frozen 1
  have k2:=hh0.cell 2 (by omega)
  have f2:=hh0.frozen 2
  have hr2:=hr.below hb3 ql
  dsimp only
  go_wp2_with fail
  have hh:=((HSt.o.call hb2).call hb3)
  have hf:=hh.fill3 (.bool b2) (.slice A2 n2 c2) (.slice A3 n3 c3)
  have hg:=(((hh.set 0 (.bool b2) (by simp)).set 1 (.slice A2 n2 c2) (by simp)).set 2 (.slice A3 n3 c3) (by simp))
  have hs:=(((hr2.sn.hset hh 0 (.bool b2)).hset (hh.set 0 (.bool b2) (by simp)) 1 (.slice A2 n2 c2)).hset ((hh.set 0 (.bool b2) (by simp)).set 1 (.slice A2 n2 c2) (by simp)) 2 (.slice A3 n3 c3))
  have hs2:=(((hr3.hset hh 0 (.bool b2)).hset (hh.set 0 (.bool b2) (by simp)) 1 (.slice A2 n2 c2)).hset ((hh.set 0 (.bool b2) (by simp)).set 1 (.slice A2 n2 c2) (by simp)) 2 (.slice A3 n3 c3))
  obtain ⟨r0,r1,r2⟩:=hf.c3
  generalize (((w3.setCell ⟨w.heap.size,0,none⟩ (.bool b2)).setCell ⟨w.heap.size,1,none⟩ (.slice A2 n2 c2)).setCell ⟨w.heap.size,2,none⟩ (.slice A3 n3 c3))=wf at *
  refine bodyPost_ret (v:=.agg #[.bool b2,.slice A2 n2 c2,.slice A3 n3 c3]) (by simp [results,Tryz.results94,go_sem,r0,r1,r2];try rfl) rfl ?_
  exact ⟨⟨_,_,_,_,_,_,_,rfl,⟨⟨n,1,by omega,by omega,rfl,⟨hr2.sign,hs⟩,hs2,by simpa using HN.o,by omega⟩⟩⟩,HB.o.trans (hg.below (by omega))⟩
theorem rat_Sign (w:World) (b:Bool) (A A':Option Addr) (n c n' c':Nat) (p:Int) (q k:Nat) (h:RF w b A n c A' n' c' p q k) (hk:k≤500000) :
    Calls Tryz.prog 153 #[.agg #[.bool b,.slice A n c,.slice A' n' c']] w fun e w'=>e=.returned (.int .i64 p.sign)∧Below w.heap.size w w':=by
  have HX:=qh h
  have HK:=qh hk
  clear h hk
  go_enter Tryz.func153,Tryz.ntmps153
  go_wp2_with fail
  refine calls_letter (fun w1=>Blk w1 w.heap.size 37 [.bool b,.slice A n c,.slice A' n' c']∧Below w.heap.size w w1) ⟨(Blk.made _ 37 _ _ _ (by simp) rfl),((Below.refl _ _).alloc (by simp;try omega) _)⟩ ?_
  rintro w1 ⟨b0,hb⟩
  obtain ⟨k00,k01,k02⟩:=b0.c3
  have HB:=qh hb
  have H0:=qh b0
  have hz:=b0.lt
  clear hb b0
  refine (rat_plain _ b A A' n c n' c' p q k (HX.o.below HB.o ql) HK.o).mono ?_
  rintro e w2 ⟨⟨b2,A2,n2,c2,A3,n3,c3,rfl,hr⟩,hb2⟩
  clear k00 k01 k02
  obtain ⟨p2,q2,e1,e2,e3,e4,e5,e6,e7⟩:=hr.ex
  have HS:=qh (sign_terms e1 e2 e3)
  have HBP:Hid (Big p2.natAbs):=big_pow e6 (by have:=HK.o;omega)
  have E4:=qh e4
  have HB2:=qh hb2
  clear e1 e2 e3 e4 e5 e6 e7 hr hb2
  dsimp only
  go_wp2_with fail
  refine (num_Sign _ b2 A2 n2 c2 p2 E4.o HBP.o).mono ?_
  rintro e w3 ⟨rfl,hb3⟩
  have HB3:=qh hb3
  clear hb3
  dsimp only
  go_wp2
  go_ret
  exact ⟨by rw [← HS.o];rfl,(HB.o.trans (HB2.o.mono HB.o.size)).trans (HB3.o.mono (Nat.le_trans HB.o.size HB2.o.size))⟩
theorem rat_Neg (w:World) (b:Bool) (A A':Option Addr) (n c n' c':Nat) (p:Int) (q k:Nat) (h:RF w b A n c A' n' c' p q k) (hk:k≤500000) :
    Calls Tryz.prog 98 #[.agg #[.bool b,.slice A n c,.slice A' n' c']] w fun e w'=>RetQ e w' (-p) q k∧Below w.heap.size w w':=by
  have HX:=qh h
  have HK:=qh hk
  clear h hk
  go_enter Tryz.func98,Tryz.ntmps98
  go_wp2_with fail
  refine calls_letter (fun w1=>Blk w1 w.heap.size 37 [.bool b,.slice A n c,.slice A' n' c']∧Blk w1 (w.heap.size+1) 37 [.bool false,.slice none 0 0,.slice none 0 0]∧Below w.heap.size w w1) ⟨((Blk.made _ 37 _ _ _ (by simp) rfl).alloc _),(Blk.made _ 37 _ _ _ (by simp) rfl),(((Below.refl _ _).alloc (by simp;try omega) _).alloc (by simp;try omega) _)⟩ ?_
  rintro w1 ⟨b0,b1,hb⟩
  obtain ⟨k00,k01,k02⟩:=b0.c3
  obtain ⟨k10,k11,k12⟩:=b1.c3
  have HB:=qh hb
  have H0:=qh b0
  have H1:=qh b1
  have hz:=b1.lt
  clear hb b0 b1
  refine (rat_plain _ b A A' n c n' c' p q k (HX.o.below HB.o ql) HK.o).mono ?_
  rintro e w2 ⟨⟨b2,A2,n2,c2,A3,n3,c3,rfl,hr⟩,hb2⟩
  have b0:=H0.o.below hb2 H0.o.lt
  have b1:=H1.o.below hb2 H1.o.lt
  clear k00 k01 k02 k10 k11 k12
  obtain ⟨k00,k01,k02,f00,f01,f02⟩:=b0.cf3
  have c0:=qh (((b0.put 0 (.bool b2)).put 1 (.slice A2 n2 c2)).put 2 (.slice A3 n3 c3))
  have c1:=qh (((b1.far ⟨w.heap.size,0,none⟩ (.bool b2) (by simp)).far ⟨w.heap.size,1,none⟩ (.slice A2 n2 c2) (by simp)).far ⟨w.heap.size,2,none⟩ (.slice A3 n3 c3) (by simp))
  obtain ⟨p2,q2,e1,e2,e3,e4,e5,e6,e7⟩:=hr.ex
  have hd:Hold w2 w.heap.size 37 3 w2:=Hold.start b0 (by simp [No32])
  have E4:=qh (((e4.sn.hset hd 0 (.bool b2)).hset (hd.set 0 (.bool b2) (by simp)) 1 (.slice A2 n2 c2)).hset ((hd.set 0 (.bool b2) (by simp)).set 1 (.slice A2 n2 c2) (by simp)) 2 (.slice A3 n3 c3))
  have E5:=qh (((e5.hset hd 0 (.bool b2)).hset (hd.set 0 (.bool b2) (by simp)) 1 (.slice A2 n2 c2)).hset ((hd.set 0 (.bool b2) (by simp)).set 1 (.slice A2 n2 c2) (by simp)) 2 (.slice A3 n3 c3))
  have HBB:=qh ((HB.o.trans (hb2.mono HB.o.size)).trans ((((hd.set 0 (.bool b2) (by simp)).set 1 (.slice A2 n2 c2) (by simp)).set 2 (.slice A3 n3 c3) (by simp)).below ql))
  have ES:=qh e4.sign
  have E1:=qh e1
  have E2:=qh e2
  have E3:=qh e3
  have E6:=qh e6
  have E7:=qh e7
  clear hd e1 e2 e3 e4 e5 e6 e7 hr hb2 b0 b1 H0 H1
  dsimp only
  go_wp2_with fail
  clear k00 k01 k02 f00 f01 f02
  generalize ((w2.setCell ⟨w.heap.size,0,none⟩ (.bool b2)).setCell ⟨w.heap.size,1,none⟩ (.slice A2 n2 c2)).setCell ⟨w.heap.size,2,none⟩ (.slice A3 n3 c3)=w3 at *
  simp only [M0,M1] at c0
  have HSN:=E4
  have HKK:Hid (∀ w',Hold w3 (w.heap.size+1) 37 3 w'→w'.cell? ⟨w.heap.size,0,none⟩=some (.bool b2)∧w'.cell? ⟨w.heap.size,1,none⟩=some (.slice A2 n2 c2)∧w'.cell? ⟨w.heap.size,2,none⟩=some (.slice A3 n3 c3)∧w'.cell? ⟨w.heap.size+1,0,none⟩=some (cellAt w' ⟨w.heap.size+1,0,none⟩)∧w'.cell? ⟨w.heap.size+1,1,none⟩=some (cellAt w' ⟨w.heap.size+1,1,none⟩)∧w'.cell? ⟨w.heap.size+1,2,none⟩=some (cellAt w' ⟨w.heap.size+1,2,none⟩)∧w'.frozen? ⟨w.heap.size+1,0,none⟩=false∧w'.frozen? ⟨w.heap.size+1,1,none⟩=false∧w'.frozen? ⟨w.heap.size+1,2,none⟩=false∧Hold w3 (w.heap.size+1) 37 3 w'):=fun w' h=>⟨(h.blk c0.out (by omega)).cell 0,(h.blk c0.out (by omega)).cell 1,(h.blk c0.out (by omega)).cell 2,h.cell 0 (by omega),h.cell 1 (by omega),h.cell 2 (by omega),h.frozen 0,h.frozen 1,h.frozen 2,h⟩
  have HSt:Hid (Hold w3 (w.heap.size+1) 37 3 w3):=Hold.start c1.out (by simp [No32])
  go_region_held3 (fun w'=>w'.cell? ⟨w.heap.size,0,none⟩=some (.bool b2)∧w'.cell? ⟨w.heap.size,1,none⟩=some (.slice A2 n2 c2)∧w'.cell? ⟨w.heap.size,2,none⟩=some (.slice A3 n3 c3)∧w'.cell? ⟨w.heap.size+1,0,none⟩=some (cellAt w' ⟨w.heap.size+1,0,none⟩)∧w'.cell? ⟨w.heap.size+1,1,none⟩=some (cellAt w' ⟨w.heap.size+1,1,none⟩)∧w'.cell? ⟨w.heap.size+1,2,none⟩=some (cellAt w' ⟨w.heap.size+1,2,none⟩)∧w'.frozen? ⟨w.heap.size+1,0,none⟩=false∧w'.frozen? ⟨w.heap.size+1,1,none⟩=false∧w'.frozen? ⟨w.heap.size+1,2,none⟩=false∧Hold w3 (w.heap.size+1) 37 3 w')
    (first|exact HKK.o _ HSt.o.drew|(go_split_ands;first|exact HKK.o _ (Hold.call ‹Hold w3 (w.heap.size+1) 37 3 _› hb4)|exact HKK.o _ (((‹Hold w3 (w.heap.size+1) 37 3 _›.set 0 _ (by simp)).set 1 _ (by simp)).set 2 _ (by simp))))
    (first|((with_reducible refine (num_Neg _ b2 A2 n2 c2 p2 ?_ (big_pow E6.o (by have:=HK.o;omega))).mono ?_);(refine ⟨ES.o,?_⟩;(refine Hold.sn (W:=w3) (g:=w.heap.size+1) (t:=37) (n:=3) ?_ E4.o;(go_split_ands;assumption)));rintro e w4 ⟨⟨b4,A4,n4,c4,rfl,hr4⟩,hb4⟩))
  have hh:=(HSt.o.drew.call hb4)
  have hf:=hh.fill3 (.bool b4) (.slice A4 n4 c4) (.slice A3 n3 c3)
  have hg:=(((hh.set 0 (.bool b4) (by simp)).set 1 (.slice A4 n4 c4) (by simp)).set 2 (.slice A3 n3 c3) (by simp))
  have hs:=(((hr4.sn.hset hh 0 (.bool b4)).hset (hh.set 0 (.bool b4) (by simp)) 1 (.slice A4 n4 c4)).hset ((hh.set 0 (.bool b4) (by simp)).set 1 (.slice A4 n4 c4) (by simp)) 2 (.slice A3 n3 c3))
  have hs2:=(((((HSt.o.drew.call hb4).sn E5.o).hset hh 0 (.bool b4)).hset (hh.set 0 (.bool b4) (by simp)) 1 (.slice A4 n4 c4)).hset ((hh.set 0 (.bool b4) (by simp)).set 1 (.slice A4 n4 c4) (by simp)) 2 (.slice A3 n3 c3))
  obtain ⟨r0,r1,r2⟩:=hf.c3
  generalize (((w4.setCell ⟨w.heap.size+1,0,none⟩ (.bool b4)).setCell ⟨w.heap.size+1,1,none⟩ (.slice A4 n4 c4)).setCell ⟨w.heap.size+1,2,none⟩ (.slice A3 n3 c3))=wf at *
  go_wp2
  refine bodyPost_ret (v:=.agg #[.bool b4,.slice A4 n4 c4,.slice A3 n3 c3]) (by simp [results,Tryz.results98,go_sem,r0,r1,r2];try rfl) rfl ?_
  exact ⟨⟨_,_,_,_,_,_,_,rfl,⟨⟨-p2,q2,E1.o,E2.o,by have:=E3.o;grind,⟨hr4.sign,hs⟩,hs2,by rw [Int.natAbs_neg];exact E6.o,E7.o⟩⟩⟩,HBB.o.trans (hg.below (by omega))⟩
theorem rat_times (w:World) (b:Bool) (A A':Option Addr) (n c n' c':Nat) (x:Int) (y:Nat) (hx:RZ w b A n c x) (hy:SN w A' n' c' y) (hbx:Big x.natAbs) (hby:Big y) (hbm:Big (x * y).natAbs) :
    Calls Tryz.prog 151 #[.agg #[.bool b,.slice A n c],.agg #[.slice A' n' c']] w fun e w'=>RetZ e w' (x * y)∧Below w.heap.size w w':=by
  have HX:=qh hx
  have HY:=qh hy
  have HBX:=qh hbx
  have HBY:=qh hby
  have HBM:=qh hbm
  clear hx hy hbx hby hbm
  go_enter Tryz.func151,Tryz.ntmps151
  go_wp2_with fail
  refine calls_letter (fun w1=>Blk w1 w.heap.size 35 [.bool b,.slice A n c]∧Blk w1 (w.heap.size+1) 24 [.slice A' n' c']∧Blk w1 (w.heap.size+1+1) 35 [.bool false,.slice none 0 0]∧Below w.heap.size w w1) ⟨(((Blk.made _ 35 _ _ _ (by simp) rfl).alloc _).alloc _),((Blk.made _ 24 _ _ _ (by simp) rfl).alloc _),(Blk.made _ 35 _ _ _ (by simp) rfl),((((Below.refl _ _).alloc (by simp;try omega) _).alloc (by simp;try omega) _).alloc (by simp;try omega) _)⟩ ?_
  rintro w1 ⟨b0,b1,b2,hb⟩
  obtain ⟨k00,k01⟩:=b0.c2
  have k10:=b1.c1
  obtain ⟨k20,k21⟩:=b2.c2
  have HB:=qh hb
  have H0:=qh b0
  have H1:=qh b1
  have H2:=qh b2
  have hz:=b2.lt
  clear hb b0 b1 b2
  refine (num_Mul _ b false A A' n c n' c' x y (HX.o.below HB.o ql) ⟨by simp,HY.o.below HB.o ql⟩ HBX.o HBY.o HBM.o).mono ?_
  rintro e w2 ⟨⟨b2,A2,n2,c2,rfl,hr⟩,hb2⟩
  have HSt:Hid (Hold w1 (w.heap.size+1+1) 35 2 w1):=Hold.start H2.o (by simp [No32])
  have hh0:=(HSt.o.call hb2)
  have k0:=hh0.cell 0 (by omega)
  have f0:=hh0.frozen 0
  have k1:=hh0.cell 1 (by omega)
  have f1:=hh0.frozen 1
  clear k00 k01 k10 k20 k21
  dsimp only
  go_wp2_with fail
  have hh:=(HSt.o.call hb2)
  have hf:=hh.fill2 (.bool b2) (.slice A2 n2 c2)
  have hg:=((hh.set 0 (.bool b2) (by simp)).set 1 (.slice A2 n2 c2) (by simp))
  have hs:=((hr.sn.hset hh 0 (.bool b2)).hset (hh.set 0 (.bool b2) (by simp)) 1 (.slice A2 n2 c2))
  obtain ⟨r0,r1⟩:=hf.c2
  generalize ((w2.setCell ⟨w.heap.size+1+1,0,none⟩ (.bool b2)).setCell ⟨w.heap.size+1+1,1,none⟩ (.slice A2 n2 c2))=wf at *
  refine bodyPost_ret (v:=.agg #[.bool b2,.slice A2 n2 c2]) (by simp [results,Tryz.results151,go_sem,r0,r1];try rfl) rfl ?_
  exact ⟨⟨_,_,_,_,rfl,⟨hr.sign,hs⟩⟩,HB.o.trans (hg.below (by omega))⟩
theorem inv_terms {p q p2 q2:Nat} (hp:0<p) (e:p2 * q=p * q2) (hq2:0<q2):0<p2:=by
  rcases Nat.eq_zero_or_pos p2 with h|h
  · subst h;rw [Nat.zero_mul] at e;have:=Nat.mul_pos hp hq2;omega
  · exact h
theorem rat_Inv (w:World) (b:Bool) (A A':Option Addr) (n c n' c':Nat) (p q k:Nat) (h:RF w b A n c A' n' c' p q k) (hk:k≤500000) (hp:0<p) :
    Calls Tryz.prog 93 #[.agg #[.bool b,.slice A n c,.slice A' n' c']] w fun e w'=>RetQB e w' q p k∧Below w.heap.size w w':=by
  have HX:=qh h
  have HK:=qh hk
  have HP:=qh hp
  clear h hk hp
  go_enter Tryz.func93,Tryz.ntmps93
  go_wp2_with fail
  refine calls_letter (fun w1=>Blk w1 w.heap.size 37 [.bool b,.slice A n c,.slice A' n' c']∧Blk w1 (w.heap.size+1) 37 [.bool false,.slice none 0 0,.slice none 0 0]∧Below w.heap.size w w1) ⟨((Blk.made _ 37 _ _ _ (by simp) rfl).alloc _),(Blk.made _ 37 _ _ _ (by simp) rfl),(((Below.refl _ _).alloc (by simp;try omega) _).alloc (by simp;try omega) _)⟩ ?_
  rintro w1 ⟨b0,b1,hb⟩
  obtain ⟨k00,k01,k02⟩:=b0.c3
  obtain ⟨k10,k11,k12⟩:=b1.c3
  have HB:=qh hb
  have H0:=qh b0
  have H1:=qh b1
  have hz:=b1.lt
  clear hb b0 b1
  refine (rat_plain _ b A A' n c n' c' p q k (HX.o.below HB.o ql) HK.o).mono ?_
  rintro e w2 ⟨⟨b2,A2,n2,c2,A3,n3,c3,rfl,hr⟩,hb2⟩
  have b0:=H0.o.below hb2 H0.o.lt
  have b1:=H1.o.below hb2 H1.o.lt
  clear k00 k01 k02 k10 k11 k12
  obtain ⟨k00,k01,k02,f00,f01,f02⟩:=b0.cf3
  have c0:=qh (((b0.put 0 (.bool b2)).put 1 (.slice A2 n2 c2)).put 2 (.slice A3 n3 c3))
  have c1:=qh (((b1.far ⟨w.heap.size,0,none⟩ (.bool b2) (by simp)).far ⟨w.heap.size,1,none⟩ (.slice A2 n2 c2) (by simp)).far ⟨w.heap.size,2,none⟩ (.slice A3 n3 c3) (by simp))
  obtain ⟨p2,q2,e1,e2,e3,e4,e5,e6,e7⟩:=hr.ex
  have hd:Hold w2 w.heap.size 37 3 w2:=Hold.start b0 (by simp [No32])
  have E4:=qh (((e4.sn.hset hd 0 (.bool b2)).hset (hd.set 0 (.bool b2) (by simp)) 1 (.slice A2 n2 c2)).hset ((hd.set 0 (.bool b2) (by simp)).set 1 (.slice A2 n2 c2) (by simp)) 2 (.slice A3 n3 c3))
  have E5:=qh (((e5.hset hd 0 (.bool b2)).hset (hd.set 0 (.bool b2) (by simp)) 1 (.slice A2 n2 c2)).hset ((hd.set 0 (.bool b2) (by simp)).set 1 (.slice A2 n2 c2) (by simp)) 2 (.slice A3 n3 c3))
  have HBB:=qh ((HB.o.trans (hb2.mono HB.o.size)).trans ((((hd.set 0 (.bool b2) (by simp)).set 1 (.slice A2 n2 c2) (by simp)).set 2 (.slice A3 n3 c3) (by simp)).below ql))
  obtain ⟨e0,e33⟩:=nat_terms e1 e2 e3
  have eb:b2=false:=by rw [e4.sign];simp;omega
  subst eb
  have E1:=qh e1
  have E2:=qh e2
  have E3:=qh e33
  have E6:=qh e6
  have E7:=qh e7
  clear hd e0 e1 e2 e3 e33 e4 e5 e6 e7 hr hb2 b0 b1 H0 H1
  dsimp only
  have P0:=c0.out.cell 0
  have P1:=c0.out.cell 1
  have P2:=c0.out.cell 2
  simp only [M2,M3,M0,M1] at P0 P1 P2
  go_wp2_with fail
  clear P0 P1 P2 f00 f01 f02 k00 k01 k02
  generalize (((w2.setCell ⟨w.heap.size,0,none⟩ (.bool false)).setCell ⟨w.heap.size,1,none⟩ (.slice A2 n2 c2)).setCell ⟨w.heap.size,2,none⟩ (.slice A3 n3 c3))=w3 at *
  have HP2:=qh (inv_terms HP.o E3.o E2.o)
  refine (rat_Of _ false A3 A2 n3 c3 n2 c2 q2 p2.natAbs k ⟨by simp,by simpa using E5.o⟩ E4.o HP2.o (by simpa using E7.o) E6.o (by have:=HK.o;omega)).mono ?_
  rintro e w4 ⟨⟨b4,A4,n4,c4,A5,n5,c5,rfl,hr4⟩,hb4⟩
  have HSt:Hid (Hold w3 (w.heap.size+1) 37 3 w3):=Hold.start c1.out (by simp [No32])
  have hh0:=HSt.o.call hb4
  have k0:=hh0.cell 0 (by omega)
  have k1:=hh0.cell 1 (by omega)
  have k2:=hh0.cell 2 (by omega)
  have f0:=hh0.frozen 0
  have f1:=hh0.frozen 1
  have f2:=hh0.frozen 2
  obtain ⟨P,Q,g1,g2,g3,g4,g5,g6,g7⟩:=hr4.ex
  have hpq:P * p=q * Q:=by
    have a1:=E3.o
    have a2:((p2.natAbs * q:Nat):Int)=((p * q2:Nat):Int):=by rw [a1]
    push_cast at a2
    have a4:(0:Int)<(q2:Int):=by have:=E2.o;omega
    have a3:(P * p - q * Q) * q2=0:=by grind
    rcases Int.mul_eq_zero.1 a3 with h|h <;> omega
  dsimp only
  go_wp2_with fail
  have hh:=(HSt.o.call hb4)
  have hf:=hh.fill3 (.bool b4) (.slice A4 n4 c4) (.slice A5 n5 c5)
  have hg:=(((hh.set 0 (.bool b4) (by simp)).set 1 (.slice A4 n4 c4) (by simp)).set 2 (.slice A5 n5 c5) (by simp))
  have hs:=(((g4.sn.hset hh 0 (.bool b4)).hset (hh.set 0 (.bool b4) (by simp)) 1 (.slice A4 n4 c4)).hset ((hh.set 0 (.bool b4) (by simp)).set 1 (.slice A4 n4 c4) (by simp)) 2 (.slice A5 n5 c5))
  have hs2:=(((g5.hset hh 0 (.bool b4)).hset (hh.set 0 (.bool b4) (by simp)) 1 (.slice A4 n4 c4)).hset ((hh.set 0 (.bool b4) (by simp)).set 1 (.slice A4 n4 c4) (by simp)) 2 (.slice A5 n5 c5))
  obtain ⟨r0,r1,r2⟩:=hf.c3
  generalize (((w4.setCell ⟨w.heap.size+1,0,none⟩ (.bool b4)).setCell ⟨w.heap.size+1,1,none⟩ (.slice A4 n4 c4)).setCell ⟨w.heap.size+1,2,none⟩ (.slice A5 n5 c5))=wf at *
  refine bodyPost_ret (v:=.tuple #[.agg #[.bool b4,.slice A4 n4 c4,.slice A5 n5 c5],.bool true]) (by simp [results,Tryz.results93,go_sem,r0,r1,r2];try rfl) rfl ?_
  exact ⟨⟨_,_,_,_,_,_,_,rfl,⟨⟨P,Q,HP.o,g2,hpq,⟨g4.sign,hs⟩,hs2,g6,g7⟩⟩⟩,HBB.o.trans (hg.below (by omega))⟩
theorem rat_Floor (w:World) (b:Bool) (A A':Option Addr) (n c n' c':Nat) (p q k:Nat) (h:RF w b A n c A' n' c' p q k) (hk:k≤500000) :
    Calls Tryz.prog 95 #[.agg #[.bool b,.slice A n c,.slice A' n' c']] w fun e w'=>RetZ e w' ((p / q:Nat):Int)∧Below w.heap.size w w':=by
  have HX:=qh h
  have HK:=qh hk
  clear h hk
  go_enter Tryz.func95,Tryz.ntmps95
  go_wp2_with fail
  refine calls_letter (fun w1=>Blk w1 w.heap.size 37 [.bool b,.slice A n c,.slice A' n' c']∧Blk w1 (w.heap.size+1) 35 [.bool false,.slice none 0 0]∧Below w.heap.size w w1) ⟨((Blk.made _ 37 _ _ _ (by simp) rfl).alloc _),(Blk.made _ 35 _ _ _ (by simp) rfl),(((Below.refl _ _).alloc (by simp;try omega) _).alloc (by simp;try omega) _)⟩ ?_
  rintro w1 ⟨b0,b1,hb⟩
  obtain ⟨k00,k01,k02⟩:=b0.c3
  obtain ⟨k10,k11⟩:=b1.c2
  have HB:=qh hb
  have H0:=qh b0
  have H1:=qh b1
  have hz:=b1.lt
  clear hb b0 b1
  refine (rat_plain _ b A A' n c n' c' p q k (HX.o.below HB.o ql) HK.o).mono ?_
  rintro e w2 ⟨⟨b2,A2,n2,c2,A3,n3,c3,rfl,hr⟩,hb2⟩
  have b0:=H0.o.below hb2 H0.o.lt
  have b1:=H1.o.below hb2 H1.o.lt
  clear k00 k01 k02 k10 k11
  obtain ⟨k00,k01,k02,f00,f01,f02⟩:=b0.cf3
  have c0:=qh (((b0.put 0 (.bool b2)).put 1 (.slice A2 n2 c2)).put 2 (.slice A3 n3 c3))
  have c1:=qh (((b1.far ⟨w.heap.size,0,none⟩ (.bool b2) (by simp)).far ⟨w.heap.size,1,none⟩ (.slice A2 n2 c2) (by simp)).far ⟨w.heap.size,2,none⟩ (.slice A3 n3 c3) (by simp))
  obtain ⟨p2,q2,e1,e2,e3,e4,e5,e6,e7⟩:=hr.ex
  have hd:Hold w2 w.heap.size 37 3 w2:=Hold.start b0 (by simp [No32])
  have E4:=qh (((e4.sn.hset hd 0 (.bool b2)).hset (hd.set 0 (.bool b2) (by simp)) 1 (.slice A2 n2 c2)).hset ((hd.set 0 (.bool b2) (by simp)).set 1 (.slice A2 n2 c2) (by simp)) 2 (.slice A3 n3 c3))
  have E5:=qh (((e5.hset hd 0 (.bool b2)).hset (hd.set 0 (.bool b2) (by simp)) 1 (.slice A2 n2 c2)).hset ((hd.set 0 (.bool b2) (by simp)).set 1 (.slice A2 n2 c2) (by simp)) 2 (.slice A3 n3 c3))
  have HBB:=qh ((HB.o.trans (hb2.mono HB.o.size)).trans ((((hd.set 0 (.bool b2) (by simp)).set 1 (.slice A2 n2 c2) (by simp)).set 2 (.slice A3 n3 c3) (by simp)).below ql))
  obtain ⟨e0,e33⟩:=nat_terms e1 e2 e3
  have eb:b2=false:=by rw [e4.sign];simp;omega
  subst eb
  have E1:=qh e1
  have E2:=qh e2
  have E3:=qh (floor_terms e1 e2 e33)
  have E6:=qh e6
  have E7:=qh e7
  clear hd e0 e1 e2 e3 e33 e4 e5 e6 e7 hr hb2 b0 b1 H0 H1
  dsimp only
  have P0:=c0.out.cell 0
  have P1:=c0.out.cell 1
  have P2:=c0.out.cell 2
  simp only [M2,M3,M0,M1] at P0 P1 P2
  go_wp2_with fail
  clear P0 P1 P2 f00 f01 f02 k00 k01 k02
  generalize (((w2.setCell ⟨w.heap.size,0,none⟩ (.bool false)).setCell ⟨w.heap.size,1,none⟩ (.slice A2 n2 c2)).setCell ⟨w.heap.size,2,none⟩ (.slice A3 n3 c3))=w3 at *
  refine (num_Div _ A2 A3 n2 c2 n3 c3 p2.natAbs q2 E4.o E5.o (big_pow E6.o (by have:=HK.o;omega)) (big_pow E7.o (by have:=HK.o;omega)) E2.o).mono ?_
  rintro e w4 ⟨⟨b4,A4,n4,c4,b5,A5,n5,c5,rfl,hr4,hr5⟩,hb4⟩
  have hz4:=hb4.size
  have hc1:=c1.out.lt
  have HSt:Hid (Hold w3 (w.heap.size+1) 35 2 w3):=Hold.start c1.out (by simp [No32])
  have d1:=qh (((c1.out.below hb4 hc1).alloc (.cells #[.bool b4,.slice A4 n4 c4] 35)).alloc (.cells #[.bool b5,.slice A5 n5 c5] 35))
  obtain ⟨k0,k1,f0,f1⟩:=d1.out.cf2
  dsimp only
  go_wp2_with fail
  have hb6:Below w4.heap.size w4 ((w4.alloc (.cells #[.bool b4,.slice A4 n4 c4] 35)).alloc (.cells #[.bool b5,.slice A5 n5 c5] 35)):=((Below.refl _ _).alloc ql _).alloc (by simp) _
  rw [E3.o] at hr4
  have hr6:=hr4.below hb6 ql
  have hh:=((HSt.o.call hb4).call hb6)
  have hf:=hh.fill2 (.bool b4) (.slice A4 n4 c4)
  have hg:=((hh.set 0 (.bool b4) (by simp)).set 1 (.slice A4 n4 c4) (by simp))
  have hs:=((hr6.sn.hset hh 0 (.bool b4)).hset (hh.set 0 (.bool b4) (by simp)) 1 (.slice A4 n4 c4))
  obtain ⟨r0,r1⟩:=hf.c2
  generalize ((((w4.alloc (.cells #[.bool b4,.slice A4 n4 c4] 35)).alloc (.cells #[.bool b5,.slice A5 n5 c5] 35)).setCell ⟨w.heap.size+1,0,none⟩ (.bool b4)).setCell ⟨w.heap.size+1,1,none⟩ (.slice A4 n4 c4))=wf at *
  refine bodyPost_ret (v:=.agg #[.bool b4,.slice A4 n4 c4]) (by simp [results,Tryz.results95,go_sem,r0,r1];try rfl) rfl ?_
  exact ⟨⟨_,_,_,_,rfl,⟨hr6.sign,hs⟩⟩,HBB.o.trans (hg.below (by omega))⟩
theorem RF.map {w w':World} {b:Bool} {A A':Option Addr} {n c n' c':Nat} {p:Int} {q k:Nat} (h:RF w b A n c A' n' c' p q k) (T:∀ {A:Option Addr} {m c k:Nat},SN w A m c k→SN w' A m c k):RF w' b A n c A' n' c' p q k:=by
  obtain ⟨p',q',h1,h2,h3,h4,h5,h6,h7⟩:=h.ex
  exact ⟨⟨p',q',h1,h2,h3,⟨h4.sign,T h4.sn⟩,T h5,h6,h7⟩⟩
def TwoQ (w0:World) (g0 g1 g2 B0:Nat) (p:Int) (q k:Nat) (r:Int) (s l:Nat) (w:World):Prop :=
  ∃ b2 A2 n2 c2 A3 n3 c3 b4 A4 n4 c4 A5 n5 c5,Blk w g0 37 [.bool b2,.slice A2 n2 c2,.slice A3 n3 c3]∧Blk w g1 37 [.bool b4,.slice A4 n4 c4,.slice A5 n5 c5] ∧
    Blk w g2 37 [.bool false,.slice none 0 0,.slice none 0 0]∧RF w b2 A2 n2 c2 A3 n3 c3 p q k∧RF w b4 A4 n4 c4 A5 n5 c5 r s l∧Below B0 w0 w
theorem lt_mul_pow {a b k l:Nat} (ha:a<2 ^ k) (hb:b<2 ^ l):a * b<2 ^ (k+l):=by
  rw [Nat.pow_add]
  exact Nat.mul_lt_mul'' ha hb
theorem lt_add_pow {a b k:Nat} (ha:a<2 ^ k) (hb:b<2 ^ k):a+b<2 ^ (k+1):=by
  rw [Nat.pow_succ];omega
theorem absmul_lt {x:Int} {y k l:Nat} (ha:x.natAbs<2 ^ k) (hb:y<2 ^ l):(x * y).natAbs<2 ^ (k+l):=by
  rw [Int.natAbs_mul];exact lt_mul_pow ha (by simpa using hb)
theorem add_terms {p r p2 p3:Int} {q s q2 q3:Nat} (h1:p2 * q=p * q2) (h2:p3 * s=r * q3):(p2 * q3+p3 * q2) * ((q * s:Nat):Int)=(p * s+r * q) * ((q2 * q3:Nat):Int):=by
  push_cast
  grind
theorem mul_terms {p r p2 p3:Int} {q s q2 q3:Nat} (h1:p2 * q=p * q2) (h2:p3 * s=r * q3):(p2 * p3) * ((q * s:Nat):Int)=(p * r) * ((q2 * q3:Nat):Int):=by
  push_cast
  grind
theorem rat_Add (w:World) (b b':Bool) (A A' B B':Option Addr) (n c n' c' m d m' d':Nat) (p r:Int) (q s k l:Nat) (h:RF w b A n c A' n' c' p q k) (h':RF w b' B m d B' m' d' r s l) (hk:k≤200000) (hl:l≤200000) :
  Calls Tryz.prog 97 #[.agg #[.bool b,.slice A n c,.slice A' n' c'],.agg #[.bool b',.slice B m d,.slice B' m' d']] w fun e w'=>RetQ e w' (p * s+r * q) (q * s) (k+l+1)∧Below w.heap.size w w':=by
  have HX:=qh h
  have HY:=qh h'
  have HK:=qh hk
  have HL:=qh hl
  clear h h' hk hl
  go_enter Tryz.func97,Tryz.ntmps97
  go_upto_region 1 with fail
  refine wp_letter (fun w1=>Blk w1 w.heap.size 37 [.bool b,.slice A n c,.slice A' n' c']∧Blk w1 (w.heap.size+1) 37 [.bool b',.slice B m d,.slice B' m' d']∧Blk w1 (w.heap.size+1+1) 37 [.bool false,.slice none 0 0,.slice none 0 0]∧Below w.heap.size w w1) ⟨(((Blk.made _ 37 _ _ _ (by simp) rfl).alloc _).alloc _),((Blk.made _ 37 _ _ _ (by simp) rfl).alloc _),(Blk.made _ 37 _ _ _ (by simp) rfl),((((Below.refl _ _).alloc (by simp;try omega) _).alloc (by simp;try omega) _).alloc (by simp;try omega) _)⟩ ?_
  rintro w1 ⟨b0,b1,b2,hb⟩
  obtain ⟨k00,k01,k02,f00,f01,f02⟩:=b0.cf3
  obtain ⟨k10,k11,k12,f10,f11,f12⟩:=b1.cf3
  obtain ⟨k20,k21,k22⟩:=b2.c3
  have HB:=qh hb
  have H0:=qh b0
  have H1:=qh b1
  have H2:=qh b2
  have hz:=b2.lt
  clear hb b0 b1 b2
  have HF:Hid (∀ w',Below w1.heap.size w1 w'→w'.cell? ⟨w.heap.size,0,none⟩=some (.bool b)∧w'.cell? ⟨w.heap.size,1,none⟩=some (.slice A n c)∧w'.cell? ⟨w.heap.size,2,none⟩=some (.slice A' n' c')∧w'.frozen? ⟨w.heap.size,0,none⟩=false∧w'.frozen? ⟨w.heap.size,1,none⟩=false∧w'.frozen? ⟨w.heap.size,2,none⟩=false∧w'.cell? ⟨w.heap.size+1,0,none⟩=some (.bool b')∧w'.cell? ⟨w.heap.size+1,1,none⟩=some (.slice B m d)∧w'.cell? ⟨w.heap.size+1,2,none⟩=some (.slice B' m' d')∧w'.frozen? ⟨w.heap.size+1,0,none⟩=false∧w'.frozen? ⟨w.heap.size+1,1,none⟩=false∧w'.frozen? ⟨w.heap.size+1,2,none⟩=false):=fun w' h=>⟨(h.cell (by simp;omega)).trans (H0.o.cell 0),(h.cell (by simp;omega)).trans (H0.o.cell 1),(h.cell (by simp;omega)).trans (H0.o.cell 2),(h.frozen (by simp;omega)).trans (H0.o.frozen 0),(h.frozen (by simp;omega)).trans (H0.o.frozen 1),(h.frozen (by simp;omega)).trans (H0.o.frozen 2),(h.cell (by simp;omega)).trans (H1.o.cell 0),(h.cell (by simp;omega)).trans (H1.o.cell 1),(h.cell (by simp;omega)).trans (H1.o.cell 2),(h.frozen (by simp;omega)).trans (H1.o.frozen 0),(h.frozen (by simp;omega)).trans (H1.o.frozen 1),(h.frozen (by simp;omega)).trans (H1.o.frozen 2)⟩
  have HX1:=qh (HX.o.below HB.o ql)
  have HY1:=qh (HY.o.below HB.o ql)
  go_cut [] (fun wx=>TwoQ w w.heap.size (w.heap.size+1) (w.heap.size+1+1) w.heap.size p q k r s l wx)
  case first =>
   clear HX HY
   go_region_with ((first
    | ((with_reducible refine (rat_plain _ b A A' n c n' c' p q k ?_ (by have:=HK.o;omega)).mono ?_)
       · exact HX1.o.below (Below.refl _ _).drew ql
       rintro e w2 ⟨⟨b2,A2,n2,c2,A3,n3,c3,rfl,hr2⟩,hb2⟩
       have Hb2:=qh (below_on (Below.refl w1.heap.size w1).drew ql hb2)
       have R2:=qh hr2
       obtain ⟨u00',u01',u02',v00',v01',v02',u10',u11',u12',v10',v11',v12'⟩:=HF.o _ Hb2.o
       clear hr2 hb2)
    | ((with_reducible refine (rat_plain _ b' B B' m d m' d' r s l ?_ (by have:=HL.o;omega)).mono ?_)
       · exact HY1.o.below Hb2.o ql
       rintro e w3 ⟨⟨b4,A4,n4,c4,A5,n5,c5,rfl,hr4⟩,hb3⟩
       have Hb3:=qh (below_on Hb2.o ql hb3)
       have R4:=qh hr4
       have R3:=qh (R2.o.below hb3 ql)
       obtain ⟨u00'',u01'',u02'',v00'',v01'',v02'',u10'',u11'',u12'',v10'',v11'',v12''⟩:=HF.o _ Hb3.o
       clear hr4 hb3)))
   all_goals
      go_wp2_with fail
      go_meet
      have hz3:=Hb3.o.size
      have d0:=H0.o.below Hb3.o H0.o.lt
      have d1:=H1.o.below Hb3.o H1.o.lt
      have d2:=H2.o.below Hb3.o H2.o.lt
      have hh:HoldL w3 [(w.heap.size,37,3),(w.heap.size+1,37,3)] w3:=HoldL.start (by simp;exact ⟨⟨_,by simp,d0,by simp [No32]⟩,⟨_,by simp,d1,by simp [No32]⟩⟩)
      have hg:=((((((hh.set w.heap.size 0 (.bool b2) ⟨37,3,by simp⟩ (by simp)).set w.heap.size 1 (.slice A2 n2 c2) ⟨37,3,by simp⟩ (by simp)).set w.heap.size 2 (.slice A3 n3 c3) ⟨37,3,by simp⟩ (by simp)).set (w.heap.size+1) 0 (.bool b4) ⟨37,3,by simp⟩ (by simp)).set (w.heap.size+1) 1 (.slice A4 n4 c4) ⟨37,3,by simp⟩ (by simp)).set (w.heap.size+1) 2 (.slice A5 n5 c5) ⟨37,3,by simp⟩ (by simp))
      have T:∀ {A:Option Addr} {m c k:Nat},SN w3 A m c k→SN _ A m c k:=fun hs=>((((((hs.hsetL hh w.heap.size 0 (.bool b2) ⟨37,3,by simp⟩).hsetL (hh.set w.heap.size 0 (.bool b2) ⟨37,3,by simp⟩ (by simp)) w.heap.size 1 (.slice A2 n2 c2) ⟨37,3,by simp⟩).hsetL ((hh.set w.heap.size 0 (.bool b2) ⟨37,3,by simp⟩ (by simp)).set w.heap.size 1 (.slice A2 n2 c2) ⟨37,3,by simp⟩ (by simp)) w.heap.size 2 (.slice A3 n3 c3) ⟨37,3,by simp⟩).hsetL (((hh.set w.heap.size 0 (.bool b2) ⟨37,3,by simp⟩ (by simp)).set w.heap.size 1 (.slice A2 n2 c2) ⟨37,3,by simp⟩ (by simp)).set w.heap.size 2 (.slice A3 n3 c3) ⟨37,3,by simp⟩ (by simp)) (w.heap.size+1) 0 (.bool b4) ⟨37,3,by simp⟩).hsetL ((((hh.set w.heap.size 0 (.bool b2) ⟨37,3,by simp⟩ (by simp)).set w.heap.size 1 (.slice A2 n2 c2) ⟨37,3,by simp⟩ (by simp)).set w.heap.size 2 (.slice A3 n3 c3) ⟨37,3,by simp⟩ (by simp)).set (w.heap.size+1) 0 (.bool b4) ⟨37,3,by simp⟩ (by simp)) (w.heap.size+1) 1 (.slice A4 n4 c4) ⟨37,3,by simp⟩).hsetL (((((hh.set w.heap.size 0 (.bool b2) ⟨37,3,by simp⟩ (by simp)).set w.heap.size 1 (.slice A2 n2 c2) ⟨37,3,by simp⟩ (by simp)).set w.heap.size 2 (.slice A3 n3 c3) ⟨37,3,by simp⟩ (by simp)).set (w.heap.size+1) 0 (.bool b4) ⟨37,3,by simp⟩ (by simp)).set (w.heap.size+1) 1 (.slice A4 n4 c4) ⟨37,3,by simp⟩ (by simp)) (w.heap.size+1) 2 (.slice A5 n5 c5) ⟨37,3,by simp⟩)
      refine ⟨b2,A2,n2,c2,A3,n3,c3,b4,A4,n4,c4,A5,n5,c5,?_,?_,?_,R3.o.map T,R4.o.map T,(HB.o.trans (Hb3.o.mono HB.o.size)).trans (hg.below (by simp) (by omega))⟩
      · exact (((((d0.put 0 (.bool b2)).put 1 (.slice A2 n2 c2)).put 2 (.slice A3 n3 c3)).far _ _ (by simp)).far _ _ (by simp)).far _ _ (by simp)
      · exact (((((d1.far _ _ (by simp)).far _ _ (by simp)).far _ _ (by simp)).put 0 (.bool b4)).put 1 (.slice A4 n4 c4)).put 2 (.slice A5 n5 c5)
      · exact (((((d2.far _ _ (by simp <;> omega)).far _ _ (by simp <;> omega)).far _ _ (by simp <;> omega)).far _ _ (by simp)).far _ _ (by simp)).far _ _ (by simp)
  case rest =>
    obtain ⟨b2,A2,n2,c2,A3,n3,c3,b4,A4,n4,c4,A5,n5,c5,d0,d1,d2,r2,r4,hbb⟩:=hcut
    clear k00 k01 k02 k10 k11 k12 k20 k21 k22 f00 f01 f02 f10 f11 f12 H0 H1 H2 HX HY
    have H0:=qh d0
    have H1:=qh d1
    have H2:=qh d2
    have HBB:=qh hbb
    have hz2:=d2.lt
    obtain ⟨p2,q2,e1,e2,e3,e4,e5,e6,e7⟩:=r2.ex
    obtain ⟨p3,q3,x1,x2,x3,x4,x5,x6,x7⟩:=r4.ex
    have E1:=qh e1
    have E2:=qh e2
    have E3:=qh e3
    have E4:=qh e4
    have E5:=qh e5
    have E6:=qh e6
    have E7:=qh e7
    have X1:=qh x1
    have X2:=qh x2
    have X3:=qh x3
    have X4:=qh x4
    have X5:=qh x5
    have X6:=qh x6
    have X7:=qh x7
    clear d0 d1 d2 r2 r4 hbb e1 e2 e3 e4 e5 e6 e7 x1 x2 x3 x4 x5 x6 x7
    go_step
    go_wp2_with fail
    have hkl:k+l+1≤500000:=by have:=HK.o;have:=HL.o;omega
    have HN1:Hid ((p2 * q3).natAbs<2 ^ (k+l)):=absmul_lt E6.o X7.o
    have hn2:(p3 * q2).natAbs<2 ^ (k+l):=by rw [Nat.add_comm k];exact absmul_lt X6.o E7.o
    have HN2:=qh hn2
    have HN3:Hid ((p2 * q3).natAbs+(p3 * q2).natAbs<2 ^ (k+l+1)):=lt_add_pow HN1.o HN2.o
    have HN4:Hid (q2 * q3<2 ^ (k+l)):=lt_mul_pow E7.o X7.o
    have hn5:(p2 * p3).natAbs<2 ^ (k+l):=by rw [Int.natAbs_mul];exact lt_mul_pow E6.o X6.o
    have HN5:=qh hn5
    have HAD:=qh (add_terms E3.o X3.o)
    have HMU:=qh (mul_terms E3.o X3.o)
    have HQS:Hid (0<q * s):=Nat.mul_pos E1.o X1.o
    have HQ23:Hid (0<q2 * q3):=Nat.mul_pos E2.o X2.o
    clear hn2 hn5
    have HKK:Hid (∀ w',Hold wc (w.heap.size+1+1) 37 3 w'→w'.cell? ⟨w.heap.size,0,none⟩=some (.bool b2)∧w'.cell? ⟨w.heap.size,1,none⟩=some (.slice A2 n2 c2)∧w'.cell? ⟨w.heap.size,2,none⟩=some (.slice A3 n3 c3)∧w'.cell? ⟨w.heap.size+1,0,none⟩=some (.bool b4)∧w'.cell? ⟨w.heap.size+1,1,none⟩=some (.slice A4 n4 c4)∧w'.cell? ⟨w.heap.size+1,2,none⟩=some (.slice A5 n5 c5)∧w'.cell? ⟨w.heap.size+1+1,0,none⟩=some (cellAt w' ⟨w.heap.size+1+1,0,none⟩)∧w'.cell? ⟨w.heap.size+1+1,1,none⟩=some (cellAt w' ⟨w.heap.size+1+1,1,none⟩)∧w'.cell? ⟨w.heap.size+1+1,2,none⟩=some (cellAt w' ⟨w.heap.size+1+1,2,none⟩)∧w'.frozen? ⟨w.heap.size+1+1,0,none⟩=false∧w'.frozen? ⟨w.heap.size+1+1,1,none⟩=false∧w'.frozen? ⟨w.heap.size+1+1,2,none⟩=false∧Hold wc (w.heap.size+1+1) 37 3 w'):=fun w' h=>⟨(h.blk H0.o (by omega)).cell 0,(h.blk H0.o (by omega)).cell 1,(h.blk H0.o (by omega)).cell 2,(h.blk H1.o (by omega)).cell 0,(h.blk H1.o (by omega)).cell 1,(h.blk H1.o (by omega)).cell 2,h.cell 0 (by omega),h.cell 1 (by omega),h.cell 2 (by omega),h.frozen 0,h.frozen 1,h.frozen 2,h⟩
    have HSt:Hid (Hold wc (w.heap.size+1+1) 37 3 wc):=Hold.start H2.o (by simp [No32])
    go_region_held3 (fun w'=>w'.cell? ⟨w.heap.size,0,none⟩=some (.bool b2)∧w'.cell? ⟨w.heap.size,1,none⟩=some (.slice A2 n2 c2)∧w'.cell? ⟨w.heap.size,2,none⟩=some (.slice A3 n3 c3)∧w'.cell? ⟨w.heap.size+1,0,none⟩=some (.bool b4)∧w'.cell? ⟨w.heap.size+1,1,none⟩=some (.slice A4 n4 c4)∧w'.cell? ⟨w.heap.size+1,2,none⟩=some (.slice A5 n5 c5)∧w'.cell? ⟨w.heap.size+1+1,0,none⟩=some (cellAt w' ⟨w.heap.size+1+1,0,none⟩)∧w'.cell? ⟨w.heap.size+1+1,1,none⟩=some (cellAt w' ⟨w.heap.size+1+1,1,none⟩)∧w'.cell? ⟨w.heap.size+1+1,2,none⟩=some (cellAt w' ⟨w.heap.size+1+1,2,none⟩)∧w'.frozen? ⟨w.heap.size+1+1,0,none⟩=false∧w'.frozen? ⟨w.heap.size+1+1,1,none⟩=false∧w'.frozen? ⟨w.heap.size+1+1,2,none⟩=false∧Hold wc (w.heap.size+1+1) 37 3 w')
      (first|exact HKK.o _ HSt.o.drew|(go_split_ands;first|exact HKK.o _ (Hold.call ‹Hold wc (w.heap.size+1+1) 37 3 _› hb5)|exact HKK.o _ (Hold.call ‹Hold wc (w.heap.size+1+1) 37 3 _› hb6)|exact HKK.o _ (Hold.call ‹Hold wc (w.heap.size+1+1) 37 3 _› hb7)|exact HKK.o _ (Hold.call ‹Hold wc (w.heap.size+1+1) 37 3 _› hb8)|exact HKK.o _ (Hold.call ‹Hold wc (w.heap.size+1+1) 37 3 _› hb9)|exact HKK.o _ (((‹Hold wc (w.heap.size+1+1) 37 3 _›.set 0 _ (by simp)).set 1 _ (by simp)).set 2 _ (by simp))))
      (first|((with_reducible refine (rat_times _ b2 A2 A5 n2 c2 n5 c5 p2 q3 ?_ ?_ (big_pow E6.o (by have:=HK.o;have:=HL.o;omega)) (big_pow X7.o (by have:=HK.o;have:=HL.o;omega)) (big_pow HN1.o (by have:=HK.o;have:=HL.o;omega))).mono ?_);(refine ⟨E4.o.sign,?_⟩;(refine Hold.sn (W:=wc) (g:=w.heap.size+1+1) (t:=37) (n:=3) ?_ E4.o.sn;(go_split_ands;assumption)));(refine Hold.sn (W:=wc) (g:=w.heap.size+1+1) (t:=37) (n:=3) ?_ X5.o;(go_split_ands;assumption));rintro e w5 ⟨⟨b6,A6,n6,c6,rfl,hr6⟩,hb5⟩)
             | ((with_reducible refine (rat_times _ b4 A4 A3 n4 c4 n3 c3 p3 q2 ?_ ?_ (big_pow X6.o (by have:=HK.o;have:=HL.o;omega)) (big_pow E7.o (by have:=HK.o;have:=HL.o;omega)) (big_pow HN2.o (by have:=HK.o;have:=HL.o;omega))).mono ?_);(refine ⟨X4.o.sign,?_⟩;(refine Hold.sn (W:=wc) (g:=w.heap.size+1+1) (t:=37) (n:=3) ?_ X4.o.sn;(go_split_ands;assumption)));(refine Hold.sn (W:=wc) (g:=w.heap.size+1+1) (t:=37) (n:=3) ?_ E5.o;(go_split_ands;assumption));rintro e w6 ⟨⟨b7,A7,n7,c7,rfl,hr7⟩,hb6⟩)
             | ((with_reducible refine (num_Add _ b6 b7 A6 A7 n6 c6 n7 c7 (p2 * q3) (p3 * q2) ?_ hr7 (big_pow HN1.o (by have:=HK.o;have:=HL.o;omega)) (big_pow HN2.o (by have:=HK.o;have:=HL.o;omega)) (big_pow HN3.o (by have:=HK.o;have:=HL.o;omega))).mono ?_);(exact hr6.below hb6 ql);rintro e w7 ⟨⟨b8,A8,n8,c8,rfl,hr8⟩,hb7⟩)
             | ((with_reducible refine (natMul _ A3 A5 n3 c3 n5 c5 q2 q3 ?_ ?_ (big_pow E7.o (by have:=HK.o;have:=HL.o;omega)) (big_pow X7.o (by have:=HK.o;have:=HL.o;omega))).mono ?_);(refine Hold.sn (W:=wc) (g:=w.heap.size+1+1) (t:=37) (n:=3) ?_ E5.o;(go_split_ands;assumption));(refine Hold.sn (W:=wc) (g:=w.heap.size+1+1) (t:=37) (n:=3) ?_ X5.o;(go_split_ands;assumption));rintro e w8 ⟨⟨A9,n9,c9,rfl,hr9⟩,hb8⟩)
             | ((with_reducible refine (rat_plain _ b8 A8 A9 n8 c8 n9 c9 (p * s+r * q) (q * s) (k+l+1) ?_ (by have:=HK.o;have:=HL.o;omega)).mono ?_);(exact ⟨⟨_,_,HQS.o,HQ23.o,HAD.o,hr8.below hb8 ql,hr9,Nat.lt_of_le_of_lt (Int.natAbs_add_le _ _) HN3.o,Nat.lt_trans HN4.o (Nat.pow_lt_pow_right (by omega) (by omega))⟩⟩);rintro e w9 ⟨⟨ba,Aa,na,ca,Ab,nb,cb,rfl,hra⟩,hb9⟩))
    have hh:=(((((HSt.o.drew.call hb5).call hb6).call hb7).call hb8).call hb9)
    have hf:=hh.fill3 (.bool ba) (.slice Aa na ca) (.slice Ab nb cb)
    have hg:=(((hh.set 0 (.bool ba) (by simp)).set 1 (.slice Aa na ca) (by simp)).set 2 (.slice Ab nb cb) (by simp))
    have T:∀ {A:Option Addr} {m c k:Nat},SN w9 A m c k→SN (((w9.setCell ⟨w.heap.size+1+1,0,none⟩ (.bool ba)).setCell ⟨w.heap.size+1+1,1,none⟩ (.slice Aa na ca)).setCell ⟨w.heap.size+1+1,2,none⟩ (.slice Ab nb cb)) A m c k:=fun hs=>(((hs.hset hh 0 (.bool ba)).hset (hh.set 0 (.bool ba) (by simp)) 1 (.slice Aa na ca)).hset ((hh.set 0 (.bool ba) (by simp)).set 1 (.slice Aa na ca) (by simp)) 2 (.slice Ab nb cb))
    obtain ⟨r0,r1,r2⟩:=hf.c3
    generalize (((w9.setCell ⟨w.heap.size+1+1,0,none⟩ (.bool ba)).setCell ⟨w.heap.size+1+1,1,none⟩ (.slice Aa na ca)).setCell ⟨w.heap.size+1+1,2,none⟩ (.slice Ab nb cb))=wf at *
    go_wp2
    refine bodyPost_ret (v:=.agg #[.bool ba,.slice Aa na ca,.slice Ab nb cb]) (by simp [results,Tryz.results97,go_sem,r0,r1,r2];try rfl) rfl ?_
    exact ⟨⟨_,_,_,_,_,_,_,rfl,hra.map T⟩,HBB.o.trans (hg.below (by omega))⟩
theorem rat_Mul (w:World) (b b':Bool) (A A' B B':Option Addr) (n c n' c' m d m' d':Nat) (p r:Int) (q s k l:Nat) (h:RF w b A n c A' n' c' p q k) (h':RF w b' B m d B' m' d' r s l) (hk:k≤200000) (hl:l≤200000) :
  Calls Tryz.prog 96 #[.agg #[.bool b,.slice A n c,.slice A' n' c'],.agg #[.bool b',.slice B m d,.slice B' m' d']] w fun e w'=>RetQ e w' (p * r) (q * s) (k+l)∧Below w.heap.size w w':=by
  have HX:=qh h
  have HY:=qh h'
  have HK:=qh hk
  have HL:=qh hl
  clear h h' hk hl
  go_enter Tryz.func96,Tryz.ntmps96
  go_upto_region 1 with fail
  refine wp_letter (fun w1=>Blk w1 w.heap.size 37 [.bool b,.slice A n c,.slice A' n' c']∧Blk w1 (w.heap.size+1) 37 [.bool b',.slice B m d,.slice B' m' d']∧Blk w1 (w.heap.size+1+1) 37 [.bool false,.slice none 0 0,.slice none 0 0]∧Below w.heap.size w w1) ⟨(((Blk.made _ 37 _ _ _ (by simp) rfl).alloc _).alloc _),((Blk.made _ 37 _ _ _ (by simp) rfl).alloc _),(Blk.made _ 37 _ _ _ (by simp) rfl),((((Below.refl _ _).alloc (by simp;try omega) _).alloc (by simp;try omega) _).alloc (by simp;try omega) _)⟩ ?_
  rintro w1 ⟨b0,b1,b2,hb⟩
  obtain ⟨k00,k01,k02,f00,f01,f02⟩:=b0.cf3
  obtain ⟨k10,k11,k12,f10,f11,f12⟩:=b1.cf3
  obtain ⟨k20,k21,k22⟩:=b2.c3
  have HB:=qh hb
  have H0:=qh b0
  have H1:=qh b1
  have H2:=qh b2
  have hz:=b2.lt
  clear hb b0 b1 b2
  have HF:Hid (∀ w',Below w1.heap.size w1 w'→w'.cell? ⟨w.heap.size,0,none⟩=some (.bool b)∧w'.cell? ⟨w.heap.size,1,none⟩=some (.slice A n c)∧w'.cell? ⟨w.heap.size,2,none⟩=some (.slice A' n' c')∧w'.frozen? ⟨w.heap.size,0,none⟩=false∧w'.frozen? ⟨w.heap.size,1,none⟩=false∧w'.frozen? ⟨w.heap.size,2,none⟩=false∧w'.cell? ⟨w.heap.size+1,0,none⟩=some (.bool b')∧w'.cell? ⟨w.heap.size+1,1,none⟩=some (.slice B m d)∧w'.cell? ⟨w.heap.size+1,2,none⟩=some (.slice B' m' d')∧w'.frozen? ⟨w.heap.size+1,0,none⟩=false∧w'.frozen? ⟨w.heap.size+1,1,none⟩=false∧w'.frozen? ⟨w.heap.size+1,2,none⟩=false):=fun w' h=>⟨(h.cell (by simp;omega)).trans (H0.o.cell 0),(h.cell (by simp;omega)).trans (H0.o.cell 1),(h.cell (by simp;omega)).trans (H0.o.cell 2),(h.frozen (by simp;omega)).trans (H0.o.frozen 0),(h.frozen (by simp;omega)).trans (H0.o.frozen 1),(h.frozen (by simp;omega)).trans (H0.o.frozen 2),(h.cell (by simp;omega)).trans (H1.o.cell 0),(h.cell (by simp;omega)).trans (H1.o.cell 1),(h.cell (by simp;omega)).trans (H1.o.cell 2),(h.frozen (by simp;omega)).trans (H1.o.frozen 0),(h.frozen (by simp;omega)).trans (H1.o.frozen 1),(h.frozen (by simp;omega)).trans (H1.o.frozen 2)⟩
  have HX1:=qh (HX.o.below HB.o ql)
  have HY1:=qh (HY.o.below HB.o ql)
  go_cut [] (fun wx=>TwoQ w w.heap.size (w.heap.size+1) (w.heap.size+1+1) w.heap.size p q k r s l wx)
  case first =>
   clear HX HY
   go_region_with ((first
    | ((with_reducible refine (rat_plain _ b A A' n c n' c' p q k ?_ (by have:=HK.o;omega)).mono ?_)
       · exact HX1.o.below (Below.refl _ _).drew ql
       rintro e w2 ⟨⟨b2,A2,n2,c2,A3,n3,c3,rfl,hr2⟩,hb2⟩
       have Hb2:=qh (below_on (Below.refl w1.heap.size w1).drew ql hb2)
       have R2:=qh hr2
       obtain ⟨u00',u01',u02',v00',v01',v02',u10',u11',u12',v10',v11',v12'⟩:=HF.o _ Hb2.o
       clear hr2 hb2)
    | ((with_reducible refine (rat_plain _ b' B B' m d m' d' r s l ?_ (by have:=HL.o;omega)).mono ?_)
       · exact HY1.o.below Hb2.o ql
       rintro e w3 ⟨⟨b4,A4,n4,c4,A5,n5,c5,rfl,hr4⟩,hb3⟩
       have Hb3:=qh (below_on Hb2.o ql hb3)
       have R4:=qh hr4
       have R3:=qh (R2.o.below hb3 ql)
       obtain ⟨u00'',u01'',u02'',v00'',v01'',v02'',u10'',u11'',u12'',v10'',v11'',v12''⟩:=HF.o _ Hb3.o
       clear hr4 hb3)))
   all_goals
      go_wp2_with fail
      go_meet
      have hz3:=Hb3.o.size
      have d0:=H0.o.below Hb3.o H0.o.lt
      have d1:=H1.o.below Hb3.o H1.o.lt
      have d2:=H2.o.below Hb3.o H2.o.lt
      have hh:HoldL w3 [(w.heap.size,37,3),(w.heap.size+1,37,3)] w3:=HoldL.start (by simp;exact ⟨⟨_,by simp,d0,by simp [No32]⟩,⟨_,by simp,d1,by simp [No32]⟩⟩)
      have hg:=((((((hh.set w.heap.size 0 (.bool b2) ⟨37,3,by simp⟩ (by simp)).set w.heap.size 1 (.slice A2 n2 c2) ⟨37,3,by simp⟩ (by simp)).set w.heap.size 2 (.slice A3 n3 c3) ⟨37,3,by simp⟩ (by simp)).set (w.heap.size+1) 0 (.bool b4) ⟨37,3,by simp⟩ (by simp)).set (w.heap.size+1) 1 (.slice A4 n4 c4) ⟨37,3,by simp⟩ (by simp)).set (w.heap.size+1) 2 (.slice A5 n5 c5) ⟨37,3,by simp⟩ (by simp))
      have T:∀ {A:Option Addr} {m c k:Nat},SN w3 A m c k→SN _ A m c k:=fun hs=>((((((hs.hsetL hh w.heap.size 0 (.bool b2) ⟨37,3,by simp⟩).hsetL (hh.set w.heap.size 0 (.bool b2) ⟨37,3,by simp⟩ (by simp)) w.heap.size 1 (.slice A2 n2 c2) ⟨37,3,by simp⟩).hsetL ((hh.set w.heap.size 0 (.bool b2) ⟨37,3,by simp⟩ (by simp)).set w.heap.size 1 (.slice A2 n2 c2) ⟨37,3,by simp⟩ (by simp)) w.heap.size 2 (.slice A3 n3 c3) ⟨37,3,by simp⟩).hsetL (((hh.set w.heap.size 0 (.bool b2) ⟨37,3,by simp⟩ (by simp)).set w.heap.size 1 (.slice A2 n2 c2) ⟨37,3,by simp⟩ (by simp)).set w.heap.size 2 (.slice A3 n3 c3) ⟨37,3,by simp⟩ (by simp)) (w.heap.size+1) 0 (.bool b4) ⟨37,3,by simp⟩).hsetL ((((hh.set w.heap.size 0 (.bool b2) ⟨37,3,by simp⟩ (by simp)).set w.heap.size 1 (.slice A2 n2 c2) ⟨37,3,by simp⟩ (by simp)).set w.heap.size 2 (.slice A3 n3 c3) ⟨37,3,by simp⟩ (by simp)).set (w.heap.size+1) 0 (.bool b4) ⟨37,3,by simp⟩ (by simp)) (w.heap.size+1) 1 (.slice A4 n4 c4) ⟨37,3,by simp⟩).hsetL (((((hh.set w.heap.size 0 (.bool b2) ⟨37,3,by simp⟩ (by simp)).set w.heap.size 1 (.slice A2 n2 c2) ⟨37,3,by simp⟩ (by simp)).set w.heap.size 2 (.slice A3 n3 c3) ⟨37,3,by simp⟩ (by simp)).set (w.heap.size+1) 0 (.bool b4) ⟨37,3,by simp⟩ (by simp)).set (w.heap.size+1) 1 (.slice A4 n4 c4) ⟨37,3,by simp⟩ (by simp)) (w.heap.size+1) 2 (.slice A5 n5 c5) ⟨37,3,by simp⟩)
      refine ⟨b2,A2,n2,c2,A3,n3,c3,b4,A4,n4,c4,A5,n5,c5,?_,?_,?_,R3.o.map T,R4.o.map T,(HB.o.trans (Hb3.o.mono HB.o.size)).trans (hg.below (by simp) (by omega))⟩
      · exact (((((d0.put 0 (.bool b2)).put 1 (.slice A2 n2 c2)).put 2 (.slice A3 n3 c3)).far _ _ (by simp)).far _ _ (by simp)).far _ _ (by simp)
      · exact (((((d1.far _ _ (by simp)).far _ _ (by simp)).far _ _ (by simp)).put 0 (.bool b4)).put 1 (.slice A4 n4 c4)).put 2 (.slice A5 n5 c5)
      · exact (((((d2.far _ _ (by simp <;> omega)).far _ _ (by simp <;> omega)).far _ _ (by simp <;> omega)).far _ _ (by simp)).far _ _ (by simp)).far _ _ (by simp)
  case rest =>
    obtain ⟨b2,A2,n2,c2,A3,n3,c3,b4,A4,n4,c4,A5,n5,c5,d0,d1,d2,r2,r4,hbb⟩:=hcut
    clear k00 k01 k02 k10 k11 k12 k20 k21 k22 f00 f01 f02 f10 f11 f12 H0 H1 H2 HX HY
    have H0:=qh d0
    have H1:=qh d1
    have H2:=qh d2
    have HBB:=qh hbb
    have hz2:=d2.lt
    obtain ⟨p2,q2,e1,e2,e3,e4,e5,e6,e7⟩:=r2.ex
    obtain ⟨p3,q3,x1,x2,x3,x4,x5,x6,x7⟩:=r4.ex
    have E1:=qh e1
    have E2:=qh e2
    have E3:=qh e3
    have E4:=qh e4
    have E5:=qh e5
    have E6:=qh e6
    have E7:=qh e7
    have X1:=qh x1
    have X2:=qh x2
    have X3:=qh x3
    have X4:=qh x4
    have X5:=qh x5
    have X6:=qh x6
    have X7:=qh x7
    clear d0 d1 d2 r2 r4 hbb e1 e2 e3 e4 e5 e6 e7 x1 x2 x3 x4 x5 x6 x7
    go_step
    go_wp2_with fail
    have hkl:k+l+1≤500000:=by have:=HK.o;have:=HL.o;omega
    have HN1:Hid ((p2 * q3).natAbs<2 ^ (k+l)):=absmul_lt E6.o X7.o
    have hn2:(p3 * q2).natAbs<2 ^ (k+l):=by rw [Nat.add_comm k];exact absmul_lt X6.o E7.o
    have HN2:=qh hn2
    have HN3:Hid ((p2 * q3).natAbs+(p3 * q2).natAbs<2 ^ (k+l+1)):=lt_add_pow HN1.o HN2.o
    have HN4:Hid (q2 * q3<2 ^ (k+l)):=lt_mul_pow E7.o X7.o
    have hn5:(p2 * p3).natAbs<2 ^ (k+l):=by rw [Int.natAbs_mul];exact lt_mul_pow E6.o X6.o
    have HN5:=qh hn5
    have HAD:=qh (add_terms E3.o X3.o)
    have HMU:=qh (mul_terms E3.o X3.o)
    have HQS:Hid (0<q * s):=Nat.mul_pos E1.o X1.o
    have HQ23:Hid (0<q2 * q3):=Nat.mul_pos E2.o X2.o
    clear hn2 hn5
    have HKK:Hid (∀ w',Hold wc (w.heap.size+1+1) 37 3 w'→w'.cell? ⟨w.heap.size,0,none⟩=some (.bool b2)∧w'.cell? ⟨w.heap.size,1,none⟩=some (.slice A2 n2 c2)∧w'.cell? ⟨w.heap.size,2,none⟩=some (.slice A3 n3 c3)∧w'.cell? ⟨w.heap.size+1,0,none⟩=some (.bool b4)∧w'.cell? ⟨w.heap.size+1,1,none⟩=some (.slice A4 n4 c4)∧w'.cell? ⟨w.heap.size+1,2,none⟩=some (.slice A5 n5 c5)∧w'.cell? ⟨w.heap.size+1+1,0,none⟩=some (cellAt w' ⟨w.heap.size+1+1,0,none⟩)∧w'.cell? ⟨w.heap.size+1+1,1,none⟩=some (cellAt w' ⟨w.heap.size+1+1,1,none⟩)∧w'.cell? ⟨w.heap.size+1+1,2,none⟩=some (cellAt w' ⟨w.heap.size+1+1,2,none⟩)∧w'.frozen? ⟨w.heap.size+1+1,0,none⟩=false∧w'.frozen? ⟨w.heap.size+1+1,1,none⟩=false∧w'.frozen? ⟨w.heap.size+1+1,2,none⟩=false∧Hold wc (w.heap.size+1+1) 37 3 w'):=fun w' h=>⟨(h.blk H0.o (by omega)).cell 0,(h.blk H0.o (by omega)).cell 1,(h.blk H0.o (by omega)).cell 2,(h.blk H1.o (by omega)).cell 0,(h.blk H1.o (by omega)).cell 1,(h.blk H1.o (by omega)).cell 2,h.cell 0 (by omega),h.cell 1 (by omega),h.cell 2 (by omega),h.frozen 0,h.frozen 1,h.frozen 2,h⟩
    have HSt:Hid (Hold wc (w.heap.size+1+1) 37 3 wc):=Hold.start H2.o (by simp [No32])
    go_region_held3 (fun w'=>w'.cell? ⟨w.heap.size,0,none⟩=some (.bool b2)∧w'.cell? ⟨w.heap.size,1,none⟩=some (.slice A2 n2 c2)∧w'.cell? ⟨w.heap.size,2,none⟩=some (.slice A3 n3 c3)∧w'.cell? ⟨w.heap.size+1,0,none⟩=some (.bool b4)∧w'.cell? ⟨w.heap.size+1,1,none⟩=some (.slice A4 n4 c4)∧w'.cell? ⟨w.heap.size+1,2,none⟩=some (.slice A5 n5 c5)∧w'.cell? ⟨w.heap.size+1+1,0,none⟩=some (cellAt w' ⟨w.heap.size+1+1,0,none⟩)∧w'.cell? ⟨w.heap.size+1+1,1,none⟩=some (cellAt w' ⟨w.heap.size+1+1,1,none⟩)∧w'.cell? ⟨w.heap.size+1+1,2,none⟩=some (cellAt w' ⟨w.heap.size+1+1,2,none⟩)∧w'.frozen? ⟨w.heap.size+1+1,0,none⟩=false∧w'.frozen? ⟨w.heap.size+1+1,1,none⟩=false∧w'.frozen? ⟨w.heap.size+1+1,2,none⟩=false∧Hold wc (w.heap.size+1+1) 37 3 w')
      (first|exact HKK.o _ HSt.o.drew|(go_split_ands;first|exact HKK.o _ (Hold.call ‹Hold wc (w.heap.size+1+1) 37 3 _› hb7)|exact HKK.o _ (Hold.call ‹Hold wc (w.heap.size+1+1) 37 3 _› hb8)|exact HKK.o _ (Hold.call ‹Hold wc (w.heap.size+1+1) 37 3 _› hb9)|exact HKK.o _ (((‹Hold wc (w.heap.size+1+1) 37 3 _›.set 0 _ (by simp)).set 1 _ (by simp)).set 2 _ (by simp))))
      (first|((with_reducible refine (num_Mul _ b2 b4 A2 A4 n2 c2 n4 c4 p2 p3 ?_ ?_ (big_pow E6.o (by have:=HK.o;have:=HL.o;omega)) (big_pow X6.o (by have:=HK.o;have:=HL.o;omega)) (big_pow HN5.o (by have:=HK.o;have:=HL.o;omega))).mono ?_);(refine ⟨E4.o.sign,?_⟩;(refine Hold.sn (W:=wc) (g:=w.heap.size+1+1) (t:=37) (n:=3) ?_ E4.o.sn;(go_split_ands;assumption)));(refine ⟨X4.o.sign,?_⟩;(refine Hold.sn (W:=wc) (g:=w.heap.size+1+1) (t:=37) (n:=3) ?_ X4.o.sn;(go_split_ands;assumption)));rintro e w7 ⟨⟨b8,A8,n8,c8,rfl,hr8⟩,hb7⟩)
             | ((with_reducible refine (natMul _ A3 A5 n3 c3 n5 c5 q2 q3 ?_ ?_ (big_pow E7.o (by have:=HK.o;have:=HL.o;omega)) (big_pow X7.o (by have:=HK.o;have:=HL.o;omega))).mono ?_);(refine Hold.sn (W:=wc) (g:=w.heap.size+1+1) (t:=37) (n:=3) ?_ E5.o;(go_split_ands;assumption));(refine Hold.sn (W:=wc) (g:=w.heap.size+1+1) (t:=37) (n:=3) ?_ X5.o;(go_split_ands;assumption));rintro e w8 ⟨⟨A9,n9,c9,rfl,hr9⟩,hb8⟩)
             | ((with_reducible refine (rat_plain _ b8 A8 A9 n8 c8 n9 c9 (p * r) (q * s) (k+l) ?_ (by have:=HK.o;have:=HL.o;omega)).mono ?_);(exact ⟨⟨_,_,HQS.o,HQ23.o,HMU.o,hr8.below hb8 ql,hr9,HN5.o,HN4.o⟩⟩);rintro e w9 ⟨⟨ba,Aa,na,ca,Ab,nb,cb,rfl,hra⟩,hb9⟩))
    have hh:=(((HSt.o.drew.call hb7).call hb8).call hb9)
    have hf:=hh.fill3 (.bool ba) (.slice Aa na ca) (.slice Ab nb cb)
    have hg:=(((hh.set 0 (.bool ba) (by simp)).set 1 (.slice Aa na ca) (by simp)).set 2 (.slice Ab nb cb) (by simp))
    have T:∀ {A:Option Addr} {m c k:Nat},SN w9 A m c k→SN (((w9.setCell ⟨w.heap.size+1+1,0,none⟩ (.bool ba)).setCell ⟨w.heap.size+1+1,1,none⟩ (.slice Aa na ca)).setCell ⟨w.heap.size+1+1,2,none⟩ (.slice Ab nb cb)) A m c k:=fun hs=>(((hs.hset hh 0 (.bool ba)).hset (hh.set 0 (.bool ba) (by simp)) 1 (.slice Aa na ca)).hset ((hh.set 0 (.bool ba) (by simp)).set 1 (.slice Aa na ca) (by simp)) 2 (.slice Ab nb cb))
    obtain ⟨r0,r1,r2⟩:=hf.c3
    generalize (((w9.setCell ⟨w.heap.size+1+1,0,none⟩ (.bool ba)).setCell ⟨w.heap.size+1+1,1,none⟩ (.slice Aa na ca)).setCell ⟨w.heap.size+1+1,2,none⟩ (.slice Ab nb cb))=wf at *
    go_wp2
    refine bodyPost_ret (v:=.agg #[.bool ba,.slice Aa na ca,.slice Ab nb cb]) (by simp [results,Tryz.results96,go_sem,r0,r1,r2];try rfl) rfl ?_
    exact ⟨⟨_,_,_,_,_,_,_,rfl,hra.map T⟩,HBB.o.trans (hg.below (by omega))⟩
theorem rat_Cmp (w:World) (b b':Bool) (A A' B B':Option Addr) (n c n' c' m d m' d':Nat) (p r:Int) (q s k l:Nat) (h:RF w b A n c A' n' c' p q k) (h':RF w b' B m d B' m' d' r s l) (hk:k≤100000) (hl:l≤100000) :
  Calls Tryz.prog 99 #[.agg #[.bool b,.slice A n c,.slice A' n' c'],.agg #[.bool b',.slice B m d,.slice B' m' d']] w fun e w'=>e=.returned (.int .i64 (p * s+(-r) * q).sign)∧Below w.heap.size w w':=by
  have HX:=qh h
  have HY:=qh h'
  have HK:=qh hk
  have HL:=qh hl
  clear h h' hk hl
  go_enter Tryz.func99,Tryz.ntmps99
  go_upto_region 1 with fail
  refine wp_letter (fun w1=>Blk w1 w.heap.size 37 [.bool b,.slice A n c,.slice A' n' c']∧Blk w1 (w.heap.size+1) 37 [.bool b',.slice B m d,.slice B' m' d']∧Below w.heap.size w w1) ⟨((Blk.made _ 37 _ _ _ (by simp) rfl).alloc _),(Blk.made _ 37 _ _ _ (by simp) rfl),(((Below.refl _ _).alloc (by simp;try omega) _).alloc (by simp;try omega) _)⟩ ?_
  rintro w1 ⟨b0,b1,hb⟩
  obtain ⟨k00,k01,k02⟩:=b0.c3
  obtain ⟨k10,k11,k12⟩:=b1.c3
  have HB:=qh hb
  have H0:=qh b0
  have H1:=qh b1
  have hz:=b1.lt
  clear hb b0 b1
  have HX1:=qh (HX.o.below HB.o ql)
  have HY1:=qh (HY.o.below HB.o ql)
  have HF:Hid (∀ w',Below w1.heap.size w1 w'→w'.cell? ⟨w.heap.size,0,none⟩=some (.bool b)∧w'.cell? ⟨w.heap.size,1,none⟩=some (.slice A n c)∧w'.cell? ⟨w.heap.size,2,none⟩=some (.slice A' n' c')∧w'.cell? ⟨w.heap.size+1,0,none⟩=some (.bool b')∧w'.cell? ⟨w.heap.size+1,1,none⟩=some (.slice B m d)∧w'.cell? ⟨w.heap.size+1,2,none⟩=some (.slice B' m' d')∧Below w1.heap.size w1 w'):=fun w' h=>⟨(h.cell (by simp;omega)).trans (H0.o.cell 0),(h.cell (by simp;omega)).trans (H0.o.cell 1),(h.cell (by simp;omega)).trans (H0.o.cell 2),(h.cell (by simp;omega)).trans (H1.o.cell 0),(h.cell (by simp;omega)).trans (H1.o.cell 1),(h.cell (by simp;omega)).trans (H1.o.cell 2),h⟩
  clear k00 k01 k02 k10 k11 k12
  go_region_held3 (fun w'=>w'.cell? ⟨w.heap.size,0,none⟩=some (.bool b)∧w'.cell? ⟨w.heap.size,1,none⟩=some (.slice A n c)∧w'.cell? ⟨w.heap.size,2,none⟩=some (.slice A' n' c')∧w'.cell? ⟨w.heap.size+1,0,none⟩=some (.bool b')∧w'.cell? ⟨w.heap.size+1,1,none⟩=some (.slice B m d)∧w'.cell? ⟨w.heap.size+1,2,none⟩=some (.slice B' m' d')∧Below w1.heap.size w1 w')
    (first|exact HF.o _ (Below.refl _ _).drew|(go_split_ands;first|exact HF.o _ (below_on ‹Below w1.heap.size w1 _› ql hb4)|exact HF.o _ (below_on ‹Below w1.heap.size w1 _› ql hb3)|exact HF.o _ (below_on ‹Below w1.heap.size w1 _› ql hb2)))
    (first|((with_reducible refine (rat_Neg _ b' B B' m d m' d' r s l ?_ (by have:=HL.o;omega)).mono ?_);(refine RF.below HY1.o (B:=w1.heap.size) ?_ ql;(go_split_ands;assumption));rintro e w2 ⟨⟨b2,A2,n2,c2,A3,n3,c3,rfl,hr2⟩,hb2⟩)
           | ((with_reducible refine (rat_Add _ b b2 A A' A2 A3 n c n' c' n2 c2 n3 c3 p (-r) q s k l ?_ hr2 (by have:=HK.o;omega) (by have:=HL.o;omega)).mono ?_);(refine RF.below HX1.o (B:=w1.heap.size) ?_ ql;(go_split_ands;assumption));rintro e w3 ⟨⟨b4,A4,n4,c4,A5,n5,c5,rfl,hr4⟩,hb3⟩)
           | ((with_reducible refine (rat_Sign _ b4 A4 A5 n4 c4 n5 c5 (p * s+(-r) * q) (q * s) (k+l+1) hr4 (by have:=HK.o;have:=HL.o;omega)).mono ?_);rintro e w4 ⟨rfl,hb4⟩))
  have hbb:Below w1.heap.size w1 w4:=by go_split_ands;assumption
  have HBB:=qt HB hbb
  rename_i hHeld
  clear hHeld hbb hb2 hb3 hb4
  go_wp2
  go_ret
  exact ⟨rfl,HBB.o⟩
end Go.Proofs.YtdgleeglndcjhaaGreatDoor
