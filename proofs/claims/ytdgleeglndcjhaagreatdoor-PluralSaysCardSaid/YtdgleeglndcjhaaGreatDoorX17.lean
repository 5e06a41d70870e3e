import Derived.Test.YtdgleeglndcjhaaGreatDoorX16
set_option linter.unusedVariables false
set_option maxHeartbeats 2000000
set_option maxRecDepth 100000
namespace Go.Proofs.YtdgleeglndcjhaaGreatDoor
open Go.RowKit
theorem pow_round {p q k P:Nat} (h:p * q ^ k=P) (hk:0<k):(k % 2=1→(p * q) * (q * q) ^ (k / 2)=P)∧(¬ k % 2=1→p * (q * q) ^ (k / 2)=P):=by
 have e:(q * q) ^ (k / 2)=q ^ (2 * (k / 2)):=by rw [← Nat.pow_two,← Nat.pow_mul]
 rw [e];constructor
 ·intro h1;rw [Nat.mul_assoc,← Nat.pow_succ',show (2 * (k / 2)).succ=k by omega];exact h
 ·intro h1;rw [show 2 * (k / 2)=k by omega];exact h
theorem pow_le1 {p q k P:Nat} (h:p * q ^ k=P) (hp:0<p) (hq:0<q) (hk:0<k):p≤P∧q≤P∧p * q≤P∧(1<k→q * q≤P):=by
 have h1:q≤q ^ k:=by
  obtain ⟨m,rfl⟩:∃ m,k=m+1:=⟨k - 1,by omega⟩;rw [Nat.pow_succ];exact Nat.le_mul_of_pos_left _ (Nat.pow_pos hq)
 have h2:0<q ^ k:=Nat.pow_pos hq;subst h;refine ⟨Nat.le_mul_of_pos_right _ h2,Nat.le_trans h1 (Nat.le_mul_of_pos_left _ hp),Nat.mul_le_mul_left _ h1,fun hk1=>?_⟩;obtain ⟨m,rfl⟩:∃ m,k=m+2:=⟨k - 2,by omega⟩;rw [Nat.pow_succ,Nat.pow_succ,Nat.mul_assoc (q ^ m)];exact Nat.le_trans (Nat.le_mul_of_pos_left _ (Nat.pow_pos hq)) (Nat.le_mul_of_pos_left _ hp)
theorem nat_Pow (w:World) (A:Option Addr) (n c a k:Nat) (hx:SN w A n c a) (ha:0<a) (hP:Big (a ^ k)) (hP1:Big a) (hk:k<1000000000) :
  Calls Tryz.prog 141 #[.agg #[.slice A n c],.int .i64 k] w fun e w'=>RetN e w' (a ^ k)∧Below w.heap.size w w':=by
 have HX:=qh hx;have HA:=qh ha;have HP:=qh hP;have HP1:=qh hP1;have HK0:Hid (1 * a ^ k=a ^ k):=Nat.one_mul _;clear hx ha hP hP1;go_enter Tryz.func141,Tryz.ntmps141;go_wp2_with fail;refine calls_letter (fun w1=>Blk w1 w.heap.size 24 [.slice A n c]∧Blk w1 (w.heap.size+1) 24 [.slice none 0 0]∧Below w.heap.size w w1) ⟨((Blk.made _ 24 _ _ _ (by simp) rfl).alloc _),(Blk.made _ 24 _ _ _ (by simp) rfl),(((Below.refl _ _).alloc (by simp;try omega) _).alloc (by simp;try omega) _)⟩ ?_;rintro w1 ⟨b0,b1,hb⟩;refine (natOf _ 1 (by omega)).mono ?_;rintro e w2 ⟨⟨A2,n2,c2,rfl,hr2⟩,hb2⟩;have H0:=qh (b0.below hb2 b0.lt);have H1:=qh (b1.below hb2 b1.lt);have HB:=qh (hb.trans (hb2.mono hb.size));have HR2:=qh hr2;have HX2:=qh ((HX.o.below hb ql).below hb2 ql);have hz2:w.heap.size+1<w2.heap.size:=(b1.below hb2 b1.lt).lt;clear b0 b1 hb hb2 hr2 HX;dsimp only;go_wp2_with fail;generalize hP0:a ^ k=P at HP HK0;have HP0:=qh hP0;clear hP0;generalize hg:w2.heap.size=g at *
 have Hg:=qh hg;clear hg;go_loopw [1] (fun s1 wr=>∃ (m p q:Nat) (A3 A4:Option Addr) (n3 c3 n4 c4:Nat),s1=.int .i64 m∧m<1000000000∧p * q ^ m=P∧0<p∧0<q∧Big q∧Blk wr w.heap.size 24 [.slice A3 n3 c3]∧Blk wr (w.heap.size+1) 24 [.slice none 0 0]∧Blk wr g 24 [.slice A4 n4 c4]∧SN wr A3 n3 c3 q∧SN wr A4 n4 c4 p∧Below w.heap.size w wr) (fun i _=>(intOf i).toNat)
 case atStart =>
  exact ⟨k,1,a,_,_,_,_,_,_,rfl,hk,by rw [HP0.o];exact HK0.o,by omega,HA.o,HP1.o,H0.o.alloc _,H1.o.alloc _,Blk.made _ 24 _ _ _ Hg.o.symm rfl,HX2.o.below ((Below.refl _ _).alloc ql _) ql,HR2.o.below ((Below.refl _ _).alloc ql _) ql,HB.o.alloc (by rw [Hg.o];omega) _⟩
 case round =>
  obtain ⟨m,p,q,A3,A4,n3,c3,n4,c4,rfl,hm,hpq,hp,hq,hqB,b0,b1,b2,hs3,hs4,hbw⟩:=hrel;have hz5:=b2.lt;have k0:=b0.c1;have k2:=b2.c1;have f0:=b0.frozen 0;have f2:=b2.frozen 0;have B0:=qh b0;have B1:=qh b1;have B2:=qh b2;have S3:=qh hs3;have S4:=qh hs4;have HBW:=qh hbw;have HPQ:=qh hpq;have HPp:=qh hp;have HQq:=qh hq;have HQB:=qh hqB;clear b0 b1 b2 hs3 hs4 hbw hpq hp hq hqB H0 H1 HB HR2 HX2 HA HP1 HK0;by_cases hm0:0<m
  ·have hr:=pow_round HPQ.o hm0;have hl:=pow_le1 HPQ.o HPp.o HQq.o hm0;have HR:=qh hr;have HL:=qh hl;clear hr hl;go_upto_if 13 with fail;go_cut [] from 7 to 21 (fun wx=>∃ (p':Nat) (A5:Option Addr) (n5 c5:Nat),p' * (q * q) ^ (m / 2)=P∧0<p'∧(m=1→p' * q ^ 0=P)∧Blk wx w.heap.size 24 [.slice A3 n3 c3]∧Blk wx (w.heap.size+1) 24 [.slice none 0 0]∧Blk wx g 24 [.slice A5 n5 c5]∧SN wx A3 n3 c3 q∧SN wx A5 n5 c5 p'∧Below w.heap.size w wx)
   case first =>
    by_cases hodd:m % 2=1
    ·have HO:=qh hodd;have ho:(m:Int) % 2=1:=by omega
     clear hodd;go_wp2_with fail;refine (natMul _ A4 A3 n4 c4 n3 c3 p q S4.o S3.o (HP.o.mono HL.o.1) HQB.o).mono ?_;rintro e w5 ⟨⟨A5,n5,c5,rfl,hr5⟩,hb5⟩;have hz7:=hb5.size;have E0:=qh (B0.o.below hb5 B0.o.lt);have E1:=qh (B1.o.below hb5 B1.o.lt);have E2:=qh (B2.o.below hb5 B2.o.lt);have S5:=qh (S3.o.below hb5 ql);have HB5:=qt HBW hb5;have R5:=qh hr5;clear hr5 hb5 k0 k2 f0 f2 ho;obtain ⟨k2,f2⟩:=E2.o.cf1;dsimp only;go_wp2_with fail;go_meet
     have hgg:w.heap.size+1<g:=hz2;exact ⟨p * q,A5,n5,c5,HR.o.1 HO.o,Nat.mul_pos HPp.o HQq.o,fun h=>by subst h;have:=HPQ.o;simpa using this,E0.o.far _ _ (by simp;omega),E1.o.far _ _ (by simp;omega),E2.o.put 0 _,SN.far S5.o E2.o (by simp) 0 _,SN.far R5.o E2.o (by simp) 0 _,HB5.o.setCell (by show w.heap.size≤g;omega) _⟩
    ·have HO:=qh hodd;have ho:((m:Int) % 2 == 1)=false:=by rw [beq_eq_false_iff_ne];omega
     clear hodd;go_wp2_with fail;go_meet
     exact ⟨p,A4,n4,c4,HR.o.2 HO.o,HPp.o,fun h=>absurd (by rw [h]) HO.o,B0.o,B1.o,B2.o,S3.o,S4.o,HBW.o⟩
   case rest =>
    obtain ⟨p',A5,n5,c5,hpp,hpp0,hpp1,b0,b1,b2,s3,s5,hbx⟩:=hcut;clear k0 k2 f0 f2;obtain ⟨k0,f0⟩:=b0.cf1;have D0:=qh b0;have D1:=qh b1;have D2:=qh b2;have T3:=qh s3;have T5:=qh s5;have HBX:=qh hbx;have HPP:=qh hpp;have HPP0:=qh hpp0;have HPP1:=qh hpp1;clear b0 b1 b2 s3 s5 hbx hpp hpp0 hpp1;have hgg:w.heap.size+1<g:=hz2;go_step;by_cases hm1:1<m
    ·go_wp2_with fail;refine (natMul _ A3 A3 n3 c3 n3 c3 q q T3.o T3.o HQB.o HQB.o).mono ?_;rintro e w6 ⟨⟨A6,n6,c6,rfl,hr6⟩,hb6⟩;have hz6:=hb6.size;have F0:=qh (D0.o.below hb6 D0.o.lt);have F1:=qh (D1.o.below hb6 D1.o.lt);have F2:=qh (D2.o.below hb6 D2.o.lt);obtain ⟨m0,g0⟩:=F0.o.cf1;have R6:=qh hr6;have HB6:=qh hb6;clear hr6 hb6;dsimp only;go_wp2_with fail;go_round
     case rel=>exact ⟨m / 2,p',q * q,_,_,_,_,_,_,by go_num,by omega,HPP.o,HPP0.o,Nat.mul_pos HQq.o HQq.o,HP.o.mono (HL.o.2.2.2 hm1),F0.o.put 0 _,F1.o.far _ _ (by simp),F2.o.far _ _ (by simp;omega),SN.far R6.o F0.o (by simp) 0 _,SN.far (SN.below T5.o HB6.o ql) F0.o (by simp) 0 _,(HBX.o.trans (HB6.o.mono HBX.o.size)).setCell (by simp) _⟩
     case measure=>simp [intOf];omega
    ·have hmm:m=1:=by omega
     subst hmm;go_wp2_with fail;go_round
     case rel=>exact ⟨0,p',q,_,_,_,_,_,_,by go_num,by omega,HPP1.o rfl,HPP0.o,HQq.o,HQB.o,D0.o,D1.o,D2.o,T3.o,T5.o,HBX.o⟩
     case measure=>simp [intOf]
  ·obtain rfl:m=0:=by omega
   obtain ⟨k1,f1⟩:=B1.o.cf1;have hpq2:p=P:=by have:=HPQ.o;simpa using this
   have HPQ2:=qh hpq2;clear hpq2;go_wp2_with fail;refine bodyPost_ret (v:=.agg #[.slice A4 n4 c4]) (by simp [results,Tryz.results141,go_sem,(B1.o.put 0 (.slice A4 n4 c4)).cell 0];try rfl) rfl ?_;rw [HP0.o];rw [HPQ2.o] at S4;exact ⟨⟨_,_,_,rfl,SN.far S4.o B1.o (by simp) 0 _⟩,HBW.o.setCell (by simp) _⟩
end Go.Proofs.YtdgleeglndcjhaaGreatDoor
