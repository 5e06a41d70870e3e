import Derived.Test.YtdgleeglndcjhaaGreatDoorX24
set_option linter.unusedSimpArgs false
set_option linter.unusedVariables false
set_option maxHeartbeats 16000000
set_option maxRecDepth 100000
namespace Go.Proofs.YtdgleeglndcjhaaGreatDoor
open Go.RowKit
def parseD (s:Bs):Nat × Bool × Nat × Nat :=
 if 256<s.length then (11,false,0,0) else
 let rest:=Lib.trimPrefix s [45]
 let a:=(Lib.cut rest [46]).1
 let b:=(Lib.cut rest [46]).2.1
 let dot:=(Lib.cut rest [46]).2.2
 if isNum (a ++ b)=true∧isNum a=true∧(dot=true→isNum b=true)∧b.length≤60 then (0,Lib.hasPrefix s [45] && !decide (nval (a ++ b)=0),nval (a ++ b),b.length) else (2,false,0,0)
def ParseDP (s:Bs) (e:Ending) (w':World):Prop:=∃ A n c,e=.returned (.tuple #[.agg #[.bool (parseD s).2.1,.slice A n c,.int .i64 ((parseD s).2.2.2:Nat)],.int .i64 ((parseD s).1:Nat)])∧SN w' A n c (parseD s).2.2.1
theorem cut_len (l sep:Bs):(Lib.cut l sep).1.length≤l.length∧(Lib.cut l sep).2.1.length≤l.length:=by
 unfold Lib.cut;split <;> simp <;> omega
theorem nval_lt (s:Bs):nval s<2 ^ (4 * s.length):=by
 unfold nval isNum;split
 ·rename_i h;have h':=of_decide_eq_true h;obtain ⟨m,hm,hd⟩:=decFrom_all s h'.2;rw [hd 0]
  have:10 ^ s.length≤2 ^ (4 * s.length):=by
   rw [Nat.pow_mul];exact Nat.pow_le_pow_left (by decide) _
  simp only [Nat.zero_mul,Nat.zero_add,Option.getD_some];omega
 ·exact Nat.pow_pos (by omega)
theorem nil_sn (w:World):SN w none 0 0 0:=by show RL _ _ (wordsOf 0);rw [wordsOf_zero];exact ⟨SlC.nil _ _ _ _,Wd.nil⟩
theorem dec_Parse (w:World) (s:Bs) (hG:GW w) :
  Calls Tryz.prog 64 #[.string ⟨s.toArray⟩] w fun e w'=>ParseDP s e w'∧Below w.heap.size w w':=by
 have HG:=qh hG;clear hG;by_cases hbig:256<s.length
 ·have hp:parseD s=(11,false,0,0):=by unfold parseD;rw [if_pos hbig]
  have HP:=qh hp;have hbI:(256:Int)<(s.length:Int):=by omega
  clear hp hbig;go_enter Tryz.func64,Tryz.ntmps64;go_upto_region 1 with fail;refine wp_letter (fun w1=>Blk w1 w.heap.size 26 [.bool false,.slice none 0 0,.int .i64 0]∧Below w.heap.size w w1) ⟨Blk.made _ 26 _ _ _ rfl rfl,(Below.refl _ _).alloc ql _⟩ ?_;rintro w1 ⟨b0,hb⟩;have HBW:=qh hb;have G2:=qh b0;clear b0 hb;obtain ⟨k0,k1,k2,f0,f1,f2⟩:=G2.o.cf3;have hh:Hold w1 w.heap.size 26 3 w1:=Hold.start G2.o (by simp [No32]);have q:=hh.fill3 (.bool false) (.slice none 0 0) (.int .i64 0);have q2:=below_set (below_set (below_set HBW.o w.heap.size 0 ql (.bool false)) w.heap.size 1 ql (.slice none 0 0)) w.heap.size 2 ql (.int .i64 0);have Q:=qh q;have Q2:=qh q2;clear q q2 hh;go_wp2_with fail;have q:=Q.o;have q2:=Q2.o;generalize (((w1.setCell ⟨w.heap.size,0,none⟩ (.bool false)).setCell ⟨w.heap.size,1,none⟩ (.slice none 0 0)).setCell ⟨w.heap.size,2,none⟩ (.int .i64 0))=wf at *
  obtain ⟨r0,r1,r2⟩:=q.c3;refine bodyPost_ret (v:=.tuple #[.agg #[.bool false,.slice none 0 0,.int .i64 0],.int .i64 11]) (by simp [results,Tryz.results64,go_sem,r0,r1,r2];try rfl) rfl ?_;exact ⟨⟨none,0,0,by rw [HP.o];rfl,by rw [HP.o];exact nil_sn _⟩,q2⟩
 ·have hbI:¬ (256:Int)<(s.length:Int):=by omega
  obtain ⟨a,ha⟩:∃ a,a=(Lib.cut (Lib.trimPrefix s [45]) [46]).1:=⟨_,rfl⟩;obtain ⟨b,hb⟩:∃ b,b=(Lib.cut (Lib.trimPrefix s [45]) [46]).2.1:=⟨_,rfl⟩;obtain ⟨dot,hdot⟩:∃ dot,dot=(Lib.cut (Lib.trimPrefix s [45]) [46]).2.2:=⟨_,rfl⟩;obtain ⟨neg,hneg⟩:∃ neg,neg=Lib.hasPrefix s [45]:=⟨_,rfl⟩
  have hp:parseD s=if isNum (a ++ b)=true∧isNum a=true∧(dot=true→isNum b=true)∧b.length≤60 then (0,neg && !decide (nval (a ++ b)=0),nval (a ++ b),b.length) else (2,false,0,0):=by
   unfold parseD;rw [if_neg hbig,ha,hb,hdot,hneg]
  have htl:(Lib.trimPrefix s [45]).length≤s.length:=by unfold Lib.trimPrefix;split <;> simp
  have hal:a.length≤256:=by rw [ha];have:=cut_len (Lib.trimPrefix s [45]) [46];omega
  have hbl:b.length≤256:=by rw [hb];have:=cut_len (Lib.trimPrefix s [45]) [46];omega
  have HA:=qh ha;have HB:=qh hb;have HDOT:=qh hdot;have HNEG:=qh hneg;have HP:=qh hp;have HTL:=qh htl;clear ha hb hdot hneg hp htl hbig;go_enter Tryz.func64,Tryz.ntmps64;go_upto_region 1 with fail;refine wp_letter (fun w1=>Blk w1 w.heap.size 26 [.bool false,.slice none 0 0,.int .i64 0]∧Below w.heap.size w w1) ⟨Blk.made _ 26 _ _ _ rfl rfl,(Below.refl _ _).alloc ql _⟩ ?_;rintro w1 ⟨b0,hb⟩;have HB1:=qh hb;have G1:=qh b0;clear b0 hb;go_wp2_with fail;refine (Tryz.strings_CutPrefix ⟨s.toArray⟩ ⟨#[45]⟩ w1).mono ?_;rw [show Lib.trimPrefix (⟨s.toArray⟩:ByteArray).data.toList (⟨#[45]⟩:ByteArray).data.toList=Lib.trimPrefix s [45] from rfl,show Lib.hasPrefix (⟨s.toArray⟩:ByteArray).data.toList (⟨#[45]⟩:ByteArray).data.toList=neg from HNEG.o.symm];rintro e w2 ⟨rfl,rfl⟩;dsimp only;obtain ⟨t,ht⟩:∃ t,t=Lib.trimPrefix s [45]:=⟨_,rfl⟩;rw [← ht] at HA HB HDOT HTL ⊢;have HT:=qh ht;clear ht;go_wp2_with fail;refine (str_cut ⟨t.toArray⟩ ⟨#[46]⟩ w2 (HG.o.below HB1.o ql) (by show t.toArray.size≤_;have:=HTL.o;simp;omega)).mono ?_;rw [show (Lib.cut (⟨t.toArray⟩:ByteArray).data.toList (⟨#[46]⟩:ByteArray).data.toList).1=a from HA.o.symm,show (Lib.cut (⟨t.toArray⟩:ByteArray).data.toList (⟨#[46]⟩:ByteArray).data.toList).2.1=b from HB.o.symm,show (Lib.cut (⟨t.toArray⟩:ByteArray).data.toList (⟨#[46]⟩:ByteArray).data.toList).2.2=dot from HDOT.o.symm];rintro e w3 ⟨rfl,hb3⟩;have G3:=qh (G1.o.below hb3 G1.o.lt);have HB3:=qt HB1 hb3;clear hb3 G1 HB1;dsimp only;go_wp2_with fail;refine (nat_Parse w3 a (HG.o.below HB3.o ql) (by omega)).mono ?_;rintro e w4 ⟨⟨A4,n4,c4,rfl,hx4⟩,hb4⟩;dsimp only;generalize isNum a=ia at *
  have G4:=qh ((G3.o.below hb4 G3.o.lt).alloc (.cells #[.slice A4 n4 c4] 24));have HB4:=qh ((HB3.o.trans (hb4.mono HB3.o.size)).alloc (Nat.le_trans HB3.o.size hb4.size) (.cells #[.slice A4 n4 c4] 24));clear hb4 hx4 G3 HB3;go_wp2_with fail;refine (nat_Parse _ b (HG.o.below HB4.o ql) (by omega)).mono ?_;rintro e w5 ⟨⟨A5,n5,c5,rfl,hx5⟩,hb5⟩;dsimp only;generalize isNum b=ib at *
  have G5:=qh ((G4.o.below hb5 G4.o.lt).alloc (.cells #[.slice A5 n5 c5] 24));have HB5:=qh ((HB4.o.trans (hb5.mono HB4.o.size)).alloc (Nat.le_trans HB4.o.size hb5.size) (.cells #[.slice A5 n5 c5] 24));clear hb5 hx5 G4 HB4;go_wp2_with fail;rw [ba_app];refine (nat_Parse _ (a ++ b) (HG.o.below HB5.o ql) (by simp;omega)).mono ?_;rintro e w6 ⟨⟨A6,n6,c6,rfl,hx6⟩,hb6⟩;dsimp only;have hkab:=nval_lt (a ++ b);have hkb:nval (a ++ b)<2 ^ (4 * (a ++ b).length):=hkab;have HKB:=qh hkb;clear hkab hkb;generalize isNum (a ++ b)=iab at *
  generalize nval (a ++ b)=kab at *
  have G6:=qh ((G5.o.below hb6 G5.o.lt).alloc (.cells #[.slice A6 n6 c6] 24));have HB6:=qh ((HB5.o.trans (hb6.mono HB5.o.size)).alloc (Nat.le_trans HB5.o.size hb6.size) (.cells #[.slice A6 n6 c6] 24));have X6:=qh (hx6.below ((Below.refl w6.heap.size w6).alloc ql (.cells #[.slice A6 n6 c6] 24)) ql);have E6:=qh (Blk.made w6 24 [.slice A6 n6 c6] w6.heap.size #[.slice A6 n6 c6] rfl rfl);have hlt6:w.heap.size<w6.heap.size:=by have:=(G5.o.below hb6 G5.o.lt).lt;omega
  clear hb6 hx6 G5 HB5;go_upto_region 8 with fail;generalize hg6:w6.heap.size=g6 at *
  refine wp_letter (fun w7=>Blk w7 w.heap.size 26 [.bool false,.slice none 0 0,.int .i64 0]∧Blk w7 g6 24 [.slice A6 n6 c6]∧SN w7 A6 n6 c6 kab∧Below w.heap.size w w7) ⟨G6.o,E6.o,X6.o,HB6.o⟩ ?_;clear G6 E6 X6 HB6 hg6;rintro w7 ⟨d0,d1,hx,hb⟩;have G2:=qh d0;have E7:=qh d1;have X7:=qh hx;have HBW:=qh hb;clear d0 d1 hx hb;cases iab
  ·replace HP:=qh (HP.o.trans (if_neg (by simp)));obtain ⟨k0,k1,k2,f0,f1,f2⟩:=G2.o.cf3;have hh:Hold w7 w.heap.size 26 3 w7:=Hold.start G2.o (by simp [No32]);have q:=hh.fill3 (.bool false) (.slice none 0 0) (.int .i64 0);have q2:=below_set (below_set (below_set HBW.o w.heap.size 0 ql (.bool false)) w.heap.size 1 ql (.slice none 0 0)) w.heap.size 2 ql (.int .i64 0);have Q:=qh q;have Q2:=qh q2;clear q q2 hh;go_wp2_with fail;have q:=Q.o;have q2:=Q2.o;generalize (((w7.setCell ⟨w.heap.size,0,none⟩ (.bool false)).setCell ⟨w.heap.size,1,none⟩ (.slice none 0 0)).setCell ⟨w.heap.size,2,none⟩ (.int .i64 0))=wf at *
   obtain ⟨r0,r1,r2⟩:=q.c3;refine bodyPost_ret (v:=.tuple #[.agg #[.bool false,.slice none 0 0,.int .i64 0],.int .i64 2]) (by simp [results,Tryz.results64,go_sem,r0,r1,r2];try rfl) rfl ?_;exact ⟨⟨none,0,0,by rw [HP.o];rfl,by rw [HP.o];exact nil_sn _⟩,q2⟩
  cases ia
  ·replace HP:=qh (HP.o.trans (if_neg (by simp)));obtain ⟨k0,k1,k2,f0,f1,f2⟩:=G2.o.cf3;have hh:Hold w7 w.heap.size 26 3 w7:=Hold.start G2.o (by simp [No32]);have q:=hh.fill3 (.bool false) (.slice none 0 0) (.int .i64 0);have q2:=below_set (below_set (below_set HBW.o w.heap.size 0 ql (.bool false)) w.heap.size 1 ql (.slice none 0 0)) w.heap.size 2 ql (.int .i64 0);have Q:=qh q;have Q2:=qh q2;clear q q2 hh;go_wp2_with fail;have q:=Q.o;have q2:=Q2.o;generalize (((w7.setCell ⟨w.heap.size,0,none⟩ (.bool false)).setCell ⟨w.heap.size,1,none⟩ (.slice none 0 0)).setCell ⟨w.heap.size,2,none⟩ (.int .i64 0))=wf at *
   obtain ⟨r0,r1,r2⟩:=q.c3;refine bodyPost_ret (v:=.tuple #[.agg #[.bool false,.slice none 0 0,.int .i64 0],.int .i64 2]) (by simp [results,Tryz.results64,go_sem,r0,r1,r2];try rfl) rfl ?_;exact ⟨⟨none,0,0,by rw [HP.o];rfl,by rw [HP.o];exact nil_sn _⟩,q2⟩
  rcases Bool.eq_false_or_eq_true (dot && !ib) with hdi|hdi
  ·obtain ⟨rfl,rfl⟩:dot=true∧ib=false:=by revert hdi;cases dot <;> cases ib <;> simp
   replace HP:=qh (HP.o.trans (if_neg (by simp)));clear hdi;obtain ⟨k0,k1,k2,f0,f1,f2⟩:=G2.o.cf3;have hh:Hold w7 w.heap.size 26 3 w7:=Hold.start G2.o (by simp [No32]);have q:=hh.fill3 (.bool false) (.slice none 0 0) (.int .i64 0);have q2:=below_set (below_set (below_set HBW.o w.heap.size 0 ql (.bool false)) w.heap.size 1 ql (.slice none 0 0)) w.heap.size 2 ql (.int .i64 0);have Q:=qh q;have Q2:=qh q2;clear q q2 hh;go_wp2_with fail;have q:=Q.o;have q2:=Q2.o;generalize (((w7.setCell ⟨w.heap.size,0,none⟩ (.bool false)).setCell ⟨w.heap.size,1,none⟩ (.slice none 0 0)).setCell ⟨w.heap.size,2,none⟩ (.int .i64 0))=wf at *
   obtain ⟨r0,r1,r2⟩:=q.c3;refine bodyPost_ret (v:=.tuple #[.agg #[.bool false,.slice none 0 0,.int .i64 0],.int .i64 2]) (by simp [results,Tryz.results64,go_sem,r0,r1,r2];try rfl) rfl ?_;exact ⟨⟨none,0,0,by rw [HP.o];rfl,by rw [HP.o];exact nil_sn _⟩,q2⟩
  by_cases hb60:60<b.length
  ·replace HP:=qh (HP.o.trans (if_neg (by intro h;omega)));have hbI2:(60:Int)<(b.length:Int):=by omega
   rcases Bool.eq_false_or_eq_true dot with hd|hd
   ·obtain rfl:dot=true:=hd;obtain rfl:ib=true:=by revert hdi;cases ib <;> simp
    clear hdi hb60;obtain ⟨k0,k1,k2,f0,f1,f2⟩:=G2.o.cf3;have hh:Hold w7 w.heap.size 26 3 w7:=Hold.start G2.o (by simp [No32]);have q:=hh.fill3 (.bool false) (.slice none 0 0) (.int .i64 0);have q2:=below_set (below_set (below_set HBW.o w.heap.size 0 ql (.bool false)) w.heap.size 1 ql (.slice none 0 0)) w.heap.size 2 ql (.int .i64 0);have Q:=qh q;have Q2:=qh q2;clear q q2 hh;go_wp2_with fail;have q:=Q.o;have q2:=Q2.o;generalize (((w7.setCell ⟨w.heap.size,0,none⟩ (.bool false)).setCell ⟨w.heap.size,1,none⟩ (.slice none 0 0)).setCell ⟨w.heap.size,2,none⟩ (.int .i64 0))=wf at *
    obtain ⟨r0,r1,r2⟩:=q.c3;refine bodyPost_ret (v:=.tuple #[.agg #[.bool false,.slice none 0 0,.int .i64 0],.int .i64 2]) (by simp [results,Tryz.results64,go_sem,r0,r1,r2];try rfl) rfl ?_;exact ⟨⟨none,0,0,by rw [HP.o];rfl,by rw [HP.o];exact nil_sn _⟩,q2⟩
   ·obtain rfl:dot=false:=hd;clear hdi hb60;obtain ⟨k0,k1,k2,f0,f1,f2⟩:=G2.o.cf3;have hh:Hold w7 w.heap.size 26 3 w7:=Hold.start G2.o (by simp [No32]);have q:=hh.fill3 (.bool false) (.slice none 0 0) (.int .i64 0);have q2:=below_set (below_set (below_set HBW.o w.heap.size 0 ql (.bool false)) w.heap.size 1 ql (.slice none 0 0)) w.heap.size 2 ql (.int .i64 0);have Q:=qh q;have Q2:=qh q2;clear q q2 hh;go_wp2_with fail;have q:=Q.o;have q2:=Q2.o;generalize (((w7.setCell ⟨w.heap.size,0,none⟩ (.bool false)).setCell ⟨w.heap.size,1,none⟩ (.slice none 0 0)).setCell ⟨w.heap.size,2,none⟩ (.int .i64 0))=wf at *
    obtain ⟨r0,r1,r2⟩:=q.c3;refine bodyPost_ret (v:=.tuple #[.agg #[.bool false,.slice none 0 0,.int .i64 0],.int .i64 2]) (by simp [results,Tryz.results64,go_sem,r0,r1,r2];try rfl) rfl ?_;exact ⟨⟨none,0,0,by rw [HP.o];rfl,by rw [HP.o];exact nil_sn _⟩,q2⟩
  ·replace HP:=qh (HP.o.trans (if_pos ⟨rfl,rfl,by revert hdi;cases dot <;> cases ib <;> simp,by omega⟩));have hbI2:¬ (60:Int)<(b.length:Int):=by omega
   rcases Bool.eq_false_or_eq_true dot with hd|hd
   ·obtain rfl:dot=true:=hd;obtain rfl:ib=true:=by revert hdi;cases ib <;> simp
    clear hdi hb60;cases neg
    ·skip;go_upto_region 10 with fail;have HF:Hid (∀ w',(Blk w' g6 24 [.slice A6 n6 c6]∧SN w' A6 n6 c6 kab∧Below w.heap.size w w')→w'.cell? ⟨g6,0,none⟩=some (.slice A6 n6 c6)):=fun w' h=>h.1.cell 0;refine wp_region_but (fun w'=>Blk w' g6 24 [.slice A6 n6 c6]∧SN w' A6 n6 c6 kab∧Below w.heap.size w w') (by kernel_rfl) (by kernel_rfl) ⟨E7.o.drew,X7.o.drew,HBW.o.drew⟩ (fun hHeld=>?_);simp only [initL,lastL];refine wpAnyH_letter (fun wz=>Blk wz w.heap.size 26 [.bool false,.slice none 0 0,.int .i64 0]∧Blk wz g6 24 [.slice A6 n6 c6]∧SN wz A6 n6 c6 kab∧Below w.heap.size w wz) ⟨G2.o.drew,hHeld⟩ ?_;clear hHeld;rintro w8 ⟨x0,hHeld⟩;have GG:=qh x0;have S0:=qh hHeld;clear x0;refine takeA (i:=0) ?_
     try simp only [Act.put,MT,M0,M1]
     refine takeA (i:=1) ?_
     try simp only [Act.put,MT,M0,M1]
     refine takeN (i:=2) ?_
     try simp only [Act.put,MT,M0,M1]
     refine takeN (i:=3) ?_
     try simp only [Act.put,MT,M0,M1]
     refine takeN (i:=4) ?_
     try simp only [Act.put,MT,M0,M1]
     refine takeA (i:=5) ?_
     try simp only [Act.put,MT,M0,M1]
     refine takeA (i:=6) ?_
     try simp only [Act.put,MT,M0,M1]
     refine takeA (i:=7) ?_
     try simp only [Act.put,MT,M0,M1]
     refine takeA (i:=8) ?_
     try simp only [Act.put,MT,M0,M1]
     refine takeA (i:=9) ?_
     try simp only [Act.put,MT,M0,M1]
     refine wpAnyH_ready (rs:=[10]) (by kernel_rfl) (by simp) ?_;refine consL rfl (fun K hK=>?_) AllReadyH.nil;obtain ⟨k0,k1,k2,f0,f1,f2⟩:=GG.o.cf3;go_simp;have hd:Hold w8 w.heap.size 26 3 w8:=Hold.start GG.o (by simp [No32]);have hf:=hd.fill3 (.bool (false)) (.slice A6 n6 c6) (.int .i64 (b.length:Nat));have T:∀ {A0:Option Addr} {m0 c0 k0:Nat},SN w8 A0 m0 c0 k0→SN (((w8.setCell ⟨w.heap.size,0,none⟩ (.bool (false))).setCell ⟨w.heap.size,1,none⟩ (.slice A6 n6 c6)).setCell ⟨w.heap.size,2,none⟩ (.int .i64 (b.length:Nat))) A0 m0 c0 k0:=fun hs=>((hs.hset hd 0 (.bool (false))).hset (hd.set 0 (.bool (false)) (by simp)) 1 (.slice A6 n6 c6)).hset ((hd.set 0 (.bool (false)) (by simp)).set 1 (.slice A6 n6 c6) (by simp)) 2 (.int .i64 (b.length:Nat));have S11:Hid (Blk (((w8.setCell ⟨w.heap.size,0,none⟩ (.bool (false))).setCell ⟨w.heap.size,1,none⟩ (.slice A6 n6 c6)).setCell ⟨w.heap.size,2,none⟩ (.int .i64 (b.length:Nat))) g6 24 [.slice A6 n6 c6]∧SN (((w8.setCell ⟨w.heap.size,0,none⟩ (.bool (false))).setCell ⟨w.heap.size,1,none⟩ (.slice A6 n6 c6)).setCell ⟨w.heap.size,2,none⟩ (.int .i64 (b.length:Nat))) A6 n6 c6 kab∧Below w.heap.size w (((w8.setCell ⟨w.heap.size,0,none⟩ (.bool (false))).setCell ⟨w.heap.size,1,none⟩ (.slice A6 n6 c6)).setCell ⟨w.heap.size,2,none⟩ (.int .i64 (b.length:Nat)))):=⟨((S0.o.1.far ⟨w.heap.size,0,none⟩ _ (by simp;omega)).far ⟨w.heap.size,1,none⟩ _ (by simp;omega)).far ⟨w.heap.size,2,none⟩ _ (by simp;omega),T S0.o.2.1,below_set (below_set (below_set S0.o.2.2 w.heap.size 0 ql _) w.heap.size 1 ql _) w.heap.size 2 ql _⟩;have HF0:=qh hf;clear T hd hf k0 k1 k2 f0 f1 f2
     try clear hHeld
     refine hK.out _ _ (S11.o) (fun hHeld=>?_);clear hK K
     try simp only [Act.put,MT,M0,M1]
     refine wpAnyH_letter (fun wz=>Blk wz w.heap.size 26 [.bool (false),.slice A6 n6 c6,.int .i64 (b.length:Nat)]∧SN wz A6 n6 c6 kab∧Below w.heap.size w wz) ⟨HF0.o,S11.o.2.1,S11.o.2.2⟩ ?_;clear HF0 S11 hHeld;rintro w111 ⟨x0,x1,x2⟩;have D11:=qh x0;have RQ11:=qh x1;have HB11:=qh x2;clear x0 x1 x2;refine wpAnyH_done (by kernel_rfl) ?_ _;unfold TailQ;go_wp2_with fail;obtain ⟨r0,r1,r2⟩:=D11.o.c3;refine bodyPost_ret (v:=.tuple #[.agg #[.bool (false),.slice A6 n6 c6,.int .i64 (b.length:Nat)],.int .i64 0]) (by simp [results,Tryz.results64,go_sem,r0,r1,r2];try rfl) rfl ?_;exact ⟨⟨A6,n6,c6,by rw [HP.o];simp,by rw [HP.o];exact RQ11.o⟩,HB11.o⟩
    ·skip;go_upto_region 10 with fail;have HF:Hid (∀ w',(Blk w' g6 24 [.slice A6 n6 c6]∧SN w' A6 n6 c6 kab∧Below w.heap.size w w')→w'.cell? ⟨g6,0,none⟩=some (.slice A6 n6 c6)):=fun w' h=>h.1.cell 0;refine wp_region_but (fun w'=>Blk w' g6 24 [.slice A6 n6 c6]∧SN w' A6 n6 c6 kab∧Below w.heap.size w w') (by kernel_rfl) (by kernel_rfl) ⟨E7.o.drew,X7.o.drew,HBW.o.drew⟩ (fun hHeld=>?_);simp only [initL,lastL];refine wpAnyH_letter (fun wz=>Blk wz w.heap.size 26 [.bool false,.slice none 0 0,.int .i64 0]∧Blk wz g6 24 [.slice A6 n6 c6]∧SN wz A6 n6 c6 kab∧Below w.heap.size w wz) ⟨G2.o.drew,hHeld⟩ ?_;clear hHeld;rintro w8 ⟨x0,hHeld⟩;have GG:=qh x0;have S0:=qh hHeld;clear x0;refine takeA (i:=0) ?_
     try simp only [Act.put,MT,M0,M1]
     refine takeA (i:=1) ?_
     try simp only [Act.put,MT,M0,M1]
     refine takeA (i:=2) ?_
     try simp only [Act.put,MT,M0,M1]
     refine takeA (i:=6) ?_
     try simp only [Act.put,MT,M0,M1]
     refine takeA (i:=7) ?_
     try simp only [Act.put,MT,M0,M1]
     refine takeA (i:=8) ?_
     try simp only [Act.put,MT,M0,M1]
     refine wpAnyH_ready (rs:=[3]) (by kernel_rfl) (by simp) ?_;refine consL rfl (fun K hK=>?_) AllReadyH.nil;go_simp;refine (dec_zero _ A6 n6 c6 kab S0.o.2.1 (big_pow HKB.o (by rw [List.length_append];omega))).mono ?_;rintro e w118 ⟨rfl,hb⟩;have S18:Hid (Blk w118 g6 24 [.slice A6 n6 c6]∧SN w118 A6 n6 c6 kab∧Below w.heap.size w w118):=⟨S0.o.1.below hb S0.o.1.lt,S0.o.2.1.below hb ql,below_on S0.o.2.2 ql hb⟩;have G118:=qh (GG.o.below hb GG.o.lt);clear hb;dsimp only
     try clear hHeld
     refine hK.out _ _ (S18.o) (fun hHeld=>?_);clear hK K
     try simp only [Act.put,MT,M0,M1]
     refine takeA (i:=4) ?_
     try simp only [Act.put,MT,M0,M1]
     refine takeA (i:=5) ?_
     try simp only [Act.put,MT,M0,M1]
     refine takeA (i:=9) ?_
     try simp only [Act.put,MT,M0,M1]
     refine wpAnyH_ready (rs:=[10]) (by kernel_rfl) (by simp) ?_;refine consL rfl (fun K hK=>?_) AllReadyH.nil;obtain ⟨k0,k1,k2,f0,f1,f2⟩:=G118.o.cf3;go_simp;have hd:Hold w118 w.heap.size 26 3 w118:=Hold.start G118.o (by simp [No32]);have hf:=hd.fill3 (.bool (!decide (kab=0))) (.slice A6 n6 c6) (.int .i64 (b.length:Nat));have T:∀ {A0:Option Addr} {m0 c0 k0:Nat},SN w118 A0 m0 c0 k0→SN (((w118.setCell ⟨w.heap.size,0,none⟩ (.bool (!decide (kab=0)))).setCell ⟨w.heap.size,1,none⟩ (.slice A6 n6 c6)).setCell ⟨w.heap.size,2,none⟩ (.int .i64 (b.length:Nat))) A0 m0 c0 k0:=fun hs=>((hs.hset hd 0 (.bool (!decide (kab=0)))).hset (hd.set 0 (.bool (!decide (kab=0))) (by simp)) 1 (.slice A6 n6 c6)).hset ((hd.set 0 (.bool (!decide (kab=0))) (by simp)).set 1 (.slice A6 n6 c6) (by simp)) 2 (.int .i64 (b.length:Nat));have S22:Hid (Blk (((w118.setCell ⟨w.heap.size,0,none⟩ (.bool (!decide (kab=0)))).setCell ⟨w.heap.size,1,none⟩ (.slice A6 n6 c6)).setCell ⟨w.heap.size,2,none⟩ (.int .i64 (b.length:Nat))) g6 24 [.slice A6 n6 c6]∧SN (((w118.setCell ⟨w.heap.size,0,none⟩ (.bool (!decide (kab=0)))).setCell ⟨w.heap.size,1,none⟩ (.slice A6 n6 c6)).setCell ⟨w.heap.size,2,none⟩ (.int .i64 (b.length:Nat))) A6 n6 c6 kab∧Below w.heap.size w (((w118.setCell ⟨w.heap.size,0,none⟩ (.bool (!decide (kab=0)))).setCell ⟨w.heap.size,1,none⟩ (.slice A6 n6 c6)).setCell ⟨w.heap.size,2,none⟩ (.int .i64 (b.length:Nat)))):=⟨((S18.o.1.far ⟨w.heap.size,0,none⟩ _ (by simp;omega)).far ⟨w.heap.size,1,none⟩ _ (by simp;omega)).far ⟨w.heap.size,2,none⟩ _ (by simp;omega),T S18.o.2.1,below_set (below_set (below_set S18.o.2.2 w.heap.size 0 ql _) w.heap.size 1 ql _) w.heap.size 2 ql _⟩;have HF0:=qh hf;clear T hd hf k0 k1 k2 f0 f1 f2
     try clear hHeld
     refine hK.out _ _ (S22.o) (fun hHeld=>?_);clear hK K
     try simp only [Act.put,MT,M0,M1]
     refine wpAnyH_letter (fun wz=>Blk wz w.heap.size 26 [.bool (!decide (kab=0)),.slice A6 n6 c6,.int .i64 (b.length:Nat)]∧SN wz A6 n6 c6 kab∧Below w.heap.size w wz) ⟨HF0.o,S22.o.2.1,S22.o.2.2⟩ ?_;clear HF0 S22 hHeld;rintro w122 ⟨x0,x1,x2⟩;have D22:=qh x0;have RQ22:=qh x1;have HB22:=qh x2;clear x0 x1 x2;refine wpAnyH_done (by kernel_rfl) ?_ _;unfold TailQ;go_wp2_with fail;obtain ⟨r0,r1,r2⟩:=D22.o.c3;refine bodyPost_ret (v:=.tuple #[.agg #[.bool (!decide (kab=0)),.slice A6 n6 c6,.int .i64 (b.length:Nat)],.int .i64 0]) (by simp [results,Tryz.results64,go_sem,r0,r1,r2];try rfl) rfl ?_;exact ⟨⟨A6,n6,c6,by rw [HP.o];simp,by rw [HP.o];exact RQ22.o⟩,HB22.o⟩
   ·obtain rfl:dot=false:=hd;clear hdi hb60;cases neg
    ·skip;go_upto_region 10 with fail;have HF:Hid (∀ w',(Blk w' g6 24 [.slice A6 n6 c6]∧SN w' A6 n6 c6 kab∧Below w.heap.size w w')→w'.cell? ⟨g6,0,none⟩=some (.slice A6 n6 c6)):=fun w' h=>h.1.cell 0;refine wp_region_but (fun w'=>Blk w' g6 24 [.slice A6 n6 c6]∧SN w' A6 n6 c6 kab∧Below w.heap.size w w') (by kernel_rfl) (by kernel_rfl) ⟨E7.o.drew,X7.o.drew,HBW.o.drew⟩ (fun hHeld=>?_);simp only [initL,lastL];refine wpAnyH_letter (fun wz=>Blk wz w.heap.size 26 [.bool false,.slice none 0 0,.int .i64 0]∧Blk wz g6 24 [.slice A6 n6 c6]∧SN wz A6 n6 c6 kab∧Below w.heap.size w wz) ⟨G2.o.drew,hHeld⟩ ?_;clear hHeld;rintro w8 ⟨x0,hHeld⟩;have GG:=qh x0;have S0:=qh hHeld;clear x0;refine takeA (i:=0) ?_
     try simp only [Act.put,MT,M0,M1]
     refine takeA (i:=1) ?_
     try simp only [Act.put,MT,M0,M1]
     refine takeN (i:=2) ?_
     try simp only [Act.put,MT,M0,M1]
     refine takeN (i:=3) ?_
     try simp only [Act.put,MT,M0,M1]
     refine takeN (i:=4) ?_
     try simp only [Act.put,MT,M0,M1]
     refine takeA (i:=5) ?_
     try simp only [Act.put,MT,M0,M1]
     refine takeA (i:=6) ?_
     try simp only [Act.put,MT,M0,M1]
     refine takeA (i:=7) ?_
     try simp only [Act.put,MT,M0,M1]
     refine takeA (i:=8) ?_
     try simp only [Act.put,MT,M0,M1]
     refine takeA (i:=9) ?_
     try simp only [Act.put,MT,M0,M1]
     refine wpAnyH_ready (rs:=[10]) (by kernel_rfl) (by simp) ?_;refine consL rfl (fun K hK=>?_) AllReadyH.nil;obtain ⟨k0,k1,k2,f0,f1,f2⟩:=GG.o.cf3;go_simp;have hd:Hold w8 w.heap.size 26 3 w8:=Hold.start GG.o (by simp [No32]);have hf:=hd.fill3 (.bool (false)) (.slice A6 n6 c6) (.int .i64 (b.length:Nat));have T:∀ {A0:Option Addr} {m0 c0 k0:Nat},SN w8 A0 m0 c0 k0→SN (((w8.setCell ⟨w.heap.size,0,none⟩ (.bool (false))).setCell ⟨w.heap.size,1,none⟩ (.slice A6 n6 c6)).setCell ⟨w.heap.size,2,none⟩ (.int .i64 (b.length:Nat))) A0 m0 c0 k0:=fun hs=>((hs.hset hd 0 (.bool (false))).hset (hd.set 0 (.bool (false)) (by simp)) 1 (.slice A6 n6 c6)).hset ((hd.set 0 (.bool (false)) (by simp)).set 1 (.slice A6 n6 c6) (by simp)) 2 (.int .i64 (b.length:Nat));have S33:Hid (Blk (((w8.setCell ⟨w.heap.size,0,none⟩ (.bool (false))).setCell ⟨w.heap.size,1,none⟩ (.slice A6 n6 c6)).setCell ⟨w.heap.size,2,none⟩ (.int .i64 (b.length:Nat))) g6 24 [.slice A6 n6 c6]∧SN (((w8.setCell ⟨w.heap.size,0,none⟩ (.bool (false))).setCell ⟨w.heap.size,1,none⟩ (.slice A6 n6 c6)).setCell ⟨w.heap.size,2,none⟩ (.int .i64 (b.length:Nat))) A6 n6 c6 kab∧Below w.heap.size w (((w8.setCell ⟨w.heap.size,0,none⟩ (.bool (false))).setCell ⟨w.heap.size,1,none⟩ (.slice A6 n6 c6)).setCell ⟨w.heap.size,2,none⟩ (.int .i64 (b.length:Nat)))):=⟨((S0.o.1.far ⟨w.heap.size,0,none⟩ _ (by simp;omega)).far ⟨w.heap.size,1,none⟩ _ (by simp;omega)).far ⟨w.heap.size,2,none⟩ _ (by simp;omega),T S0.o.2.1,below_set (below_set (below_set S0.o.2.2 w.heap.size 0 ql _) w.heap.size 1 ql _) w.heap.size 2 ql _⟩;have HF0:=qh hf;clear T hd hf k0 k1 k2 f0 f1 f2
     try clear hHeld
     refine hK.out _ _ (S33.o) (fun hHeld=>?_);clear hK K
     try simp only [Act.put,MT,M0,M1]
     refine wpAnyH_letter (fun wz=>Blk wz w.heap.size 26 [.bool (false),.slice A6 n6 c6,.int .i64 (b.length:Nat)]∧SN wz A6 n6 c6 kab∧Below w.heap.size w wz) ⟨HF0.o,S33.o.2.1,S33.o.2.2⟩ ?_;clear HF0 S33 hHeld;rintro w133 ⟨x0,x1,x2⟩;have D33:=qh x0;have RQ33:=qh x1;have HB33:=qh x2;clear x0 x1 x2;refine wpAnyH_done (by kernel_rfl) ?_ _;unfold TailQ;go_wp2_with fail;obtain ⟨r0,r1,r2⟩:=D33.o.c3;refine bodyPost_ret (v:=.tuple #[.agg #[.bool (false),.slice A6 n6 c6,.int .i64 (b.length:Nat)],.int .i64 0]) (by simp [results,Tryz.results64,go_sem,r0,r1,r2];try rfl) rfl ?_;exact ⟨⟨A6,n6,c6,by rw [HP.o];simp,by rw [HP.o];exact RQ33.o⟩,HB33.o⟩
    ·skip;go_upto_region 10 with fail;have HF:Hid (∀ w',(Blk w' g6 24 [.slice A6 n6 c6]∧SN w' A6 n6 c6 kab∧Below w.heap.size w w')→w'.cell? ⟨g6,0,none⟩=some (.slice A6 n6 c6)):=fun w' h=>h.1.cell 0;refine wp_region_but (fun w'=>Blk w' g6 24 [.slice A6 n6 c6]∧SN w' A6 n6 c6 kab∧Below w.heap.size w w') (by kernel_rfl) (by kernel_rfl) ⟨E7.o.drew,X7.o.drew,HBW.o.drew⟩ (fun hHeld=>?_);simp only [initL,lastL];refine wpAnyH_letter (fun wz=>Blk wz w.heap.size 26 [.bool false,.slice none 0 0,.int .i64 0]∧Blk wz g6 24 [.slice A6 n6 c6]∧SN wz A6 n6 c6 kab∧Below w.heap.size w wz) ⟨G2.o.drew,hHeld⟩ ?_;clear hHeld;rintro w8 ⟨x0,hHeld⟩;have GG:=qh x0;have S0:=qh hHeld;clear x0;refine takeA (i:=0) ?_
     try simp only [Act.put,MT,M0,M1]
     refine takeA (i:=1) ?_
     try simp only [Act.put,MT,M0,M1]
     refine takeA (i:=2) ?_
     try simp only [Act.put,MT,M0,M1]
     refine takeA (i:=6) ?_
     try simp only [Act.put,MT,M0,M1]
     refine takeA (i:=7) ?_
     try simp only [Act.put,MT,M0,M1]
     refine takeA (i:=8) ?_
     try simp only [Act.put,MT,M0,M1]
     refine wpAnyH_ready (rs:=[3]) (by kernel_rfl) (by simp) ?_;refine consL rfl (fun K hK=>?_) AllReadyH.nil;go_simp;refine (dec_zero _ A6 n6 c6 kab S0.o.2.1 (big_pow HKB.o (by rw [List.length_append];omega))).mono ?_;rintro e w140 ⟨rfl,hb⟩;have S40:Hid (Blk w140 g6 24 [.slice A6 n6 c6]∧SN w140 A6 n6 c6 kab∧Below w.heap.size w w140):=⟨S0.o.1.below hb S0.o.1.lt,S0.o.2.1.below hb ql,below_on S0.o.2.2 ql hb⟩;have G140:=qh (GG.o.below hb GG.o.lt);clear hb;dsimp only
     try clear hHeld
     refine hK.out _ _ (S40.o) (fun hHeld=>?_);clear hK K
     try simp only [Act.put,MT,M0,M1]
     refine takeA (i:=4) ?_
     try simp only [Act.put,MT,M0,M1]
     refine takeA (i:=5) ?_
     try simp only [Act.put,MT,M0,M1]
     refine takeA (i:=9) ?_
     try simp only [Act.put,MT,M0,M1]
     refine wpAnyH_ready (rs:=[10]) (by kernel_rfl) (by simp) ?_;refine consL rfl (fun K hK=>?_) AllReadyH.nil;obtain ⟨k0,k1,k2,f0,f1,f2⟩:=G140.o.cf3;go_simp;have hd:Hold w140 w.heap.size 26 3 w140:=Hold.start G140.o (by simp [No32]);have hf:=hd.fill3 (.bool (!decide (kab=0))) (.slice A6 n6 c6) (.int .i64 (b.length:Nat));have T:∀ {A0:Option Addr} {m0 c0 k0:Nat},SN w140 A0 m0 c0 k0→SN (((w140.setCell ⟨w.heap.size,0,none⟩ (.bool (!decide (kab=0)))).setCell ⟨w.heap.size,1,none⟩ (.slice A6 n6 c6)).setCell ⟨w.heap.size,2,none⟩ (.int .i64 (b.length:Nat))) A0 m0 c0 k0:=fun hs=>((hs.hset hd 0 (.bool (!decide (kab=0)))).hset (hd.set 0 (.bool (!decide (kab=0))) (by simp)) 1 (.slice A6 n6 c6)).hset ((hd.set 0 (.bool (!decide (kab=0))) (by simp)).set 1 (.slice A6 n6 c6) (by simp)) 2 (.int .i64 (b.length:Nat));have S44:Hid (Blk (((w140.setCell ⟨w.heap.size,0,none⟩ (.bool (!decide (kab=0)))).setCell ⟨w.heap.size,1,none⟩ (.slice A6 n6 c6)).setCell ⟨w.heap.size,2,none⟩ (.int .i64 (b.length:Nat))) g6 24 [.slice A6 n6 c6]∧SN (((w140.setCell ⟨w.heap.size,0,none⟩ (.bool (!decide (kab=0)))).setCell ⟨w.heap.size,1,none⟩ (.slice A6 n6 c6)).setCell ⟨w.heap.size,2,none⟩ (.int .i64 (b.length:Nat))) A6 n6 c6 kab∧Below w.heap.size w (((w140.setCell ⟨w.heap.size,0,none⟩ (.bool (!decide (kab=0)))).setCell ⟨w.heap.size,1,none⟩ (.slice A6 n6 c6)).setCell ⟨w.heap.size,2,none⟩ (.int .i64 (b.length:Nat)))):=⟨((S40.o.1.far ⟨w.heap.size,0,none⟩ _ (by simp;omega)).far ⟨w.heap.size,1,none⟩ _ (by simp;omega)).far ⟨w.heap.size,2,none⟩ _ (by simp;omega),T S40.o.2.1,below_set (below_set (below_set S40.o.2.2 w.heap.size 0 ql _) w.heap.size 1 ql _) w.heap.size 2 ql _⟩;have HF0:=qh hf;clear T hd hf k0 k1 k2 f0 f1 f2
     try clear hHeld
     refine hK.out _ _ (S44.o) (fun hHeld=>?_);clear hK K
     try simp only [Act.put,MT,M0,M1]
     refine wpAnyH_letter (fun wz=>Blk wz w.heap.size 26 [.bool (!decide (kab=0)),.slice A6 n6 c6,.int .i64 (b.length:Nat)]∧SN wz A6 n6 c6 kab∧Below w.heap.size w wz) ⟨HF0.o,S44.o.2.1,S44.o.2.2⟩ ?_;clear HF0 S44 hHeld;rintro w144 ⟨x0,x1,x2⟩;have D44:=qh x0;have RQ44:=qh x1;have HB44:=qh x2;clear x0 x1 x2;refine wpAnyH_done (by kernel_rfl) ?_ _;unfold TailQ;go_wp2_with fail;obtain ⟨r0,r1,r2⟩:=D44.o.c3;refine bodyPost_ret (v:=.tuple #[.agg #[.bool (!decide (kab=0)),.slice A6 n6 c6,.int .i64 (b.length:Nat)],.int .i64 0]) (by simp [results,Tryz.results64,go_sem,r0,r1,r2];try rfl) rfl ?_;exact ⟨⟨A6,n6,c6,by rw [HP.o];simp,by rw [HP.o];exact RQ44.o⟩,HB44.o⟩
set_option exponentiation.threshold 5000 in
theorem parseD_cases (s:Bs):(∃ b k sc,parseD s=(0,b,k,sc)∧sc≤60∧(b=true→0<k)∧k<2 ^ (4 * 512))∨∃ e,parseD s=(e,false,0,0)∧(e=2∨e=11):=by
 unfold parseD;split
 ·exact .inr ⟨11,rfl,.inr rfl⟩
 ·rename_i h;dsimp only;split
  ·rename_i h2;refine .inl ⟨_,_,_,rfl,h2.2.2.2,fun hb=>?_,?_⟩
   ·simp at hb;omega
   ·have h1:=cut_len (Lib.trimPrefix s [45]) [46];have h3:(Lib.trimPrefix s [45]).length≤s.length:=by unfold Lib.trimPrefix;split <;> simp
    exact Nat.lt_of_lt_of_le (nval_lt _) (Nat.pow_le_pow_right (by omega) (by rw [List.length_append];omega))
  ·exact .inr ⟨2,rfl,.inl rfl⟩
theorem parseD_1:parseD [49]=(0,false,1,0):=by decide +kernel
end Go.Proofs.YtdgleeglndcjhaaGreatDoor
