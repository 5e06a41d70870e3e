import Derived.Test.YtdgleeglndcjhaaGreatDoorW08
import Derived.Test.YtdgleeglndcjhaaGreatDoorW02
import Derived.Test.YtdgleeglndcjhaaGreatDoorW06
import Derived.Test.YtdgleeglndcjhaaGreatDoorW01
import Derived.Lib.SmallJoins
import Derived.Deep.AppendLies
import Derived.Maps.AppendAt
set_option linter.unusedSimpArgs false
set_option linter.unusedVariables false
set_option maxHeartbeats 4000000
set_option maxRecDepth 100000
namespace Go.Proofs.YtdgleeglndcjhaaGreatDoor
open Go.RowKit
theorem pow_round {p q k P:Nat} (h:p * q ^ k=P) (hk:0<k):(k % 2=1→(p * q) * (q * q) ^ (k / 2)=P)∧(¬ k % 2=1→p * (q * q) ^ (k / 2)=P):=by
 have e:(q * q) ^ (k / 2)=q ^ (2 * (k / 2)):=by rw [← Nat.pow_two,← Nat.pow_mul]
 rw [e]
 constructor
 ·intro h1
  rw [Nat.mul_assoc,← Nat.pow_succ',show (2 * (k / 2)).succ=k by omega];exact h
 ·intro h1
  rw [show 2 * (k / 2)=k by omega];exact h
theorem pow_le1 {p q k P:Nat} (h:p * q ^ k=P) (hp:0<p) (hq:0<q) (hk:0<k):p≤P∧q≤P∧p * q≤P∧(1<k→q * q≤P):=by
 have h1:q≤q ^ k:=by
  obtain ⟨m,rfl⟩:∃ m,k=m+1:=⟨k - 1,by omega⟩
  rw [Nat.pow_succ];exact Nat.le_mul_of_pos_left _ (Nat.pow_pos hq)
 have h2:0<q ^ k:=Nat.pow_pos hq
 subst h
 refine ⟨Nat.le_mul_of_pos_right _ h2,Nat.le_trans h1 (Nat.le_mul_of_pos_left _ hp),Nat.mul_le_mul_left _ h1,fun hk1=>?_⟩
 obtain ⟨m,rfl⟩:∃ m,k=m+2:=⟨k - 2,by omega⟩
 rw [Nat.pow_succ,Nat.pow_succ,Nat.mul_assoc (q ^ m)]
 exact Nat.le_trans (Nat.le_mul_of_pos_left _ (Nat.pow_pos hq)) (Nat.le_mul_of_pos_left _ hp)
theorem nat_Pow (w:World) (A:Option Addr) (n c a k:Nat) (hx:SN w A n c a) (ha:0<a) (hP:Big (a ^ k)) (hP1:Big a) (hk:k<1000000000) :
  Calls Tryz.prog 141 #[.agg #[.slice A n c],.int .i64 k] w fun e w'=>RetN e w' (a ^ k)∧Below w.heap.size w w':=by
 have HX:=qh hx
 have HA:=qh ha
 have HP:=qh hP
 have HP1:=qh hP1
 have HK0:Hid (1 * a ^ k=a ^ k):=Nat.one_mul _
 clear hx ha hP hP1
 go_enter Tryz.func141,Tryz.ntmps141
 go_wp2_with fail
 refine calls_letter (fun w1=>Blk w1 w.heap.size 24 [.slice A n c]∧Blk w1 (w.heap.size+1) 24 [.slice none 0 0]∧Below w.heap.size w w1) ⟨((Blk.made _ 24 _ _ _ (by simp) rfl).alloc _),(Blk.made _ 24 _ _ _ (by simp) rfl),(((Below.refl _ _).alloc (by simp;try omega) _).alloc (by simp;try omega) _)⟩ ?_
 rintro w1 ⟨b0,b1,hb⟩
 refine (natOf _ 1 (by omega)).mono ?_
 rintro e w2 ⟨⟨A2,n2,c2,rfl,hr2⟩,hb2⟩
 have H0:=qh (b0.below hb2 b0.lt)
 have H1:=qh (b1.below hb2 b1.lt)
 have HB:=qh (hb.trans (hb2.mono hb.size))
 have HR2:=qh hr2
 have HX2:=qh ((HX.out.below hb ql).below hb2 ql)
 have hz2:w.heap.size+1<w2.heap.size:=(b1.below hb2 b1.lt).lt
 clear b0 b1 hb hb2 hr2 HX
 dsimp only
 go_wp2_with fail
 generalize hP0:a ^ k=P at HP HK0
 have HP0:=qh hP0
 clear hP0
 generalize hg:w2.heap.size=g at *
 have Hg:=qh hg
 clear hg
 go_loopw [1] (fun s1 wr=>∃ (m p q:Nat) (A3 A4:Option Addr) (n3 c3 n4 c4:Nat),s1=.int .i64 m∧m<1000000000∧p * q ^ m=P∧0<p∧0<q∧Big q∧Blk wr w.heap.size 24 [.slice A3 n3 c3]∧Blk wr (w.heap.size+1) 24 [.slice none 0 0]∧Blk wr g 24 [.slice A4 n4 c4]∧SN wr A3 n3 c3 q∧SN wr A4 n4 c4 p∧Below w.heap.size w wr) (fun i _=>(intOf i).toNat)
 case atStart =>
  exact ⟨k,1,a,_,_,_,_,_,_,rfl,hk,by rw [HP0.out];exact HK0.out,by omega,HA.out,HP1.out,H0.out.alloc _,H1.out.alloc _,Blk.made _ 24 _ _ _ Hg.out.symm rfl,HX2.out.below ((Below.refl _ _).alloc ql _) ql,HR2.out.below ((Below.refl _ _).alloc ql _) ql,HB.out.alloc (by rw [Hg.out];omega) _⟩
 case round =>
  obtain ⟨m,p,q,A3,A4,n3,c3,n4,c4,rfl,hm,hpq,hp,hq,hqB,b0,b1,b2,hs3,hs4,hbw⟩:=hrel
  have hz5:=b2.lt
  have k0:=b0.c1
  have k2:=b2.c1
  have f0:=b0.frozen 0
  have f2:=b2.frozen 0
  have B0:=qh b0
  have B1:=qh b1
  have B2:=qh b2
  have S3:=qh hs3
  have S4:=qh hs4
  have HBW:=qh hbw
  have HPQ:=qh hpq
  have HPp:=qh hp
  have HQq:=qh hq
  have HQB:=qh hqB
  clear b0 b1 b2 hs3 hs4 hbw hpq hp hq hqB H0 H1 HB HR2 HX2 HA HP1 HK0
  by_cases hm0:0<m
  ·have hr:=pow_round HPQ.out hm0
   have hl:=pow_le1 HPQ.out HPp.out HQq.out hm0
   have HR:=qh hr
   have HL:=qh hl
   clear hr hl
   go_upto_if 13 with fail
   go_cut [] from 7 to 21 (fun wx=>∃ (p':Nat) (A5:Option Addr) (n5 c5:Nat),p' * (q * q) ^ (m / 2)=P∧0<p'∧(m=1→p' * q ^ 0=P)∧Blk wx w.heap.size 24 [.slice A3 n3 c3]∧Blk wx (w.heap.size+1) 24 [.slice none 0 0]∧Blk wx g 24 [.slice A5 n5 c5]∧SN wx A3 n3 c3 q∧SN wx A5 n5 c5 p'∧Below w.heap.size w wx)
   case first =>
    by_cases hodd:m % 2=1
    ·have HO:=qh hodd
     have ho:(m:Int) % 2=1:=by omega
     clear hodd
     go_wp2_with fail
     refine (natMul _ A4 A3 n4 c4 n3 c3 p q S4.out S3.out (HP.out.mono HL.out.1) HQB.out).mono ?_
     rintro e w5 ⟨⟨A5,n5,c5,rfl,hr5⟩,hb5⟩
     have hz7:=hb5.size
     have E0:=qh (B0.out.below hb5 B0.out.lt)
     have E1:=qh (B1.out.below hb5 B1.out.lt)
     have E2:=qh (B2.out.below hb5 B2.out.lt)
     have S5:=qh (S3.out.below hb5 ql)
     have HB5:=qh (HBW.out.trans (hb5.mono HBW.out.size))
     have R5:=qh hr5
     clear hr5 hb5 k0 k2 f0 f2 ho
     obtain ⟨k2,f2⟩:=E2.out.cf1
     dsimp only
     go_wp2_with fail
     go_meet
     have hgg:w.heap.size+1<g:=hz2
     exact ⟨p * q,A5,n5,c5,HR.out.1 HO.out,Nat.mul_pos HPp.out HQq.out,fun h=>by subst h;have:=HPQ.out;simpa using this,E0.out.far _ _ (by simp;omega),E1.out.far _ _ (by simp;omega),E2.out.put 0 _,SN.far S5.out E2.out (by simp) 0 _,SN.far R5.out E2.out (by simp) 0 _,HB5.out.setCell (by show w.heap.size≤g;omega) _⟩
    ·have HO:=qh hodd
     have ho:((m:Int) % 2 == 1)=false:=by rw [beq_eq_false_iff_ne];omega
     clear hodd
     go_wp2_with fail
     go_meet
     exact ⟨p,A4,n4,c4,HR.out.2 HO.out,HPp.out,fun h=>absurd (by rw [h]) HO.out,B0.out,B1.out,B2.out,S3.out,S4.out,HBW.out⟩
   case rest =>
    obtain ⟨p',A5,n5,c5,hpp,hpp0,hpp1,b0,b1,b2,s3,s5,hbx⟩:=hcut
    clear k0 k2 f0 f2
    obtain ⟨k0,f0⟩:=b0.cf1
    have D0:=qh b0
    have D1:=qh b1
    have D2:=qh b2
    have T3:=qh s3
    have T5:=qh s5
    have HBX:=qh hbx
    have HPP:=qh hpp
    have HPP0:=qh hpp0
    have HPP1:=qh hpp1
    clear b0 b1 b2 s3 s5 hbx hpp hpp0 hpp1
    have hgg:w.heap.size+1<g:=hz2
    go_step
    by_cases hm1:1<m
    ·go_wp2_with fail
     refine (natMul _ A3 A3 n3 c3 n3 c3 q q T3.out T3.out HQB.out HQB.out).mono ?_
     rintro e w6 ⟨⟨A6,n6,c6,rfl,hr6⟩,hb6⟩
     have hz6:=hb6.size
     have F0:=qh (D0.out.below hb6 D0.out.lt)
     have F1:=qh (D1.out.below hb6 D1.out.lt)
     have F2:=qh (D2.out.below hb6 D2.out.lt)
     obtain ⟨m0,g0⟩:=F0.out.cf1
     have R6:=qh hr6
     have HB6:=qh hb6
     clear hr6 hb6
     dsimp only
     go_wp2_with fail
     go_round
     case rel=>exact ⟨m / 2,p',q * q,_,_,_,_,_,_,by go_num,by omega,HPP.out,HPP0.out,Nat.mul_pos HQq.out HQq.out,HP.out.mono (HL.out.2.2.2 hm1),F0.out.put 0 _,F1.out.far _ _ (by simp),F2.out.far _ _ (by simp;omega),SN.far R6.out F0.out (by simp) 0 _,SN.far (SN.below T5.out HB6.out ql) F0.out (by simp) 0 _,(HBX.out.trans (HB6.out.mono HBX.out.size)).setCell (by simp) _⟩
     case measure=>simp [intOf];omega
    ·have hmm:m=1:=by omega
     subst hmm
     go_wp2_with fail
     go_round
     case rel=>exact ⟨0,p',q,_,_,_,_,_,_,by go_num,by omega,HPP1.out rfl,HPP0.out,HQq.out,HQB.out,D0.out,D1.out,D2.out,T3.out,T5.out,HBX.out⟩
     case measure=>simp [intOf]
  ·obtain rfl:m=0:=by omega
   obtain ⟨k1,f1⟩:=B1.out.cf1
   have hpq2:p=P:=by have:=HPQ.out;simpa using this
   have HPQ2:=qh hpq2
   clear hpq2
   go_wp2_with fail
   refine bodyPost_ret (v:=.agg #[.slice A4 n4 c4]) (by simp [results,Tryz.results141,go_sem,(B1.out.put 0 (.slice A4 n4 c4)).cell 0];try rfl) rfl ?_
   rw [HP0.out]
   rw [HPQ2.out] at S4
   exact ⟨⟨_,_,_,rfl,SN.far S4.out B1.out (by simp) 0 _⟩,HBW.out.setCell (by simp) _⟩
structure GW (w:World):Prop where
 maxLen:∃ m:Int,w.cell? ⟨0,0,none⟩=some (.int .i64 m)
 pow10 : Lib.TabIs Tryz.prog w "internal/strconv.uint64pow10" .u64 Lib.pow10Tab
theorem pow10_named : Tryz.prog.globalNamed "internal/strconv.uint64pow10" = some 5 := by kernel_rfl
theorem GW.below {w w':World} {B:Nat} (h:GW w) (hb:Below B w w') (hB:w.heap.size≤B):GW w':=by
 obtain ⟨⟨m,hm⟩,ht⟩:=h
 exact ⟨⟨m,(hb.cell (Nat.lt_of_lt_of_le (World.block_lt_of_cell? w _ hm) hB)).trans hm⟩,Go.Joins.tab_stays pow10_named ht hb hB⟩
def StrsAre (w:World) (A:Option Addr) (n c:Nat) (ws:List Bs):Prop:=SlC w (.slice A n c) 1 ws.length (ws.map fun b=>Value.string ⟨b.toArray⟩)
theorem StrsAre.below {w w':World} {A:Option Addr} {n c B:Nat} {ws:List Bs} (h:StrsAre w A n c ws) (hb:Below B w w') (hB:w.heap.size≤B):StrsAre w' A n c ws:=SlC.below h hb hB
theorem StrsAre.len {w:World} {A:Option Addr} {n c:Nat} {ws:List Bs} (h:StrsAre w A n c ws):n=ws.length:=by
 obtain ⟨A',c',h1,-⟩:=h
 exact (Value.slice.inj h1).2.1
theorem StrsAre.cap {w:World} {A:Option Addr} {n c:Nat} {ws:List Bs} (h:StrsAre w A n c ws):n≤c:=by
 obtain ⟨A',c',h1,h2,-⟩:=h
 obtain ⟨-,rfl,rfl⟩:=Value.slice.inj h1
 exact h2
theorem StrsAre.at {w:World} {A:Option Addr} {n c:Nat} {ws:List Bs} (h:StrsAre w A n c ws) (h0:0<ws.length):∃ b o,A=some ⟨b,o,none⟩∧∀ j x,ws[j]?=some x→w.cell? ⟨b,o+j,none⟩=some (.string ⟨x.toArray⟩):=by
 obtain ⟨A',c',h1,h2,h3,h4⟩:=h
 obtain ⟨b,o,h5,h6⟩:=h4 (by simpa using h0)
 obtain ⟨rfl,-,-⟩:=Value.slice.inj h1
 exact ⟨b,o,h5,fun j x hx=>h6 j _ (by simp [hx])⟩
def RetS (e:Ending) (w':World) (ws:List Bs):Prop:=∃ A n c,e=.returned (.slice A n c)∧StrsAre w' A n c ws
theorem below_drews {B:Nat} (w:World) (n:Nat):Below B w (w.drewN n):=below_drewN (Below.refl _ _) n
theorem mk_data (s:ByteArray):(⟨s.data.toList.toArray⟩:ByteArray)=s:=by
 obtain ⟨a⟩:=s;simp
theorem str_split (s:ByteArray) (c:UInt8) (w:World) (hg:GW w) (hs:s.size≤1000000) :
  Calls Tryz.prog 46 #[.string s,.string ⟨#[c]⟩] w fun e w'=>RetS e w' (splitG c s.data.toList)∧Below w.heap.size w w':=by
 obtain ⟨m,hm⟩:=hg.maxLen
 refine (Tryz.strings_Split s ⟨#[c]⟩ m w (by omega) hm (Nat.le_refl 1)).mono ?_
 rintro e w' ⟨rfl,rfl⟩
 have hlen:=Lib.splitB_all ⟨#[c]⟩ (Nat.le_refl 1) 0 (Lib.countB s ⟨#[c]⟩) s rfl
 have hl2:=congrArg List.length (splitB_eq c s)
 rw [List.length_map] at hl2
 rw [hlen] at hl2
 refine ⟨⟨_,_,_,rfl,_,_,by rw [hl2],?_,?_,fun _=>⟨w.heap.size,0,rfl,fun j x hx=>?_⟩⟩,(Below.refl _ _).alloc ql _⟩
 ·omega
 ·simp
 ·rw [← splitB_eq,List.map_map] at hx
  have e:(List.map ((fun b:Bs=>Value.string ⟨b.toArray⟩) ∘ fun x=>x.data.toList) (Lib.splitB ⟨#[c]⟩ 0 (Lib.countB s ⟨#[c]⟩) s))=(Lib.splitB ⟨#[c]⟩ 0 (Lib.countB s ⟨#[c]⟩) s).map Value.string:=List.map_congr_left fun b _=>by simp [mk_data]
  rw [e] at hx
  rw [Nat.zero_add]
  simp only [World.cell?,World.alloc,Array.getElem?_push_size]
  simpa using hx
theorem str_cut (s sep:ByteArray) (w:World) (hg:GW w) (hs:s.size≤1000000) :
  Calls Tryz.prog 104 #[.string s,.string sep] w fun e w'=>e=.returned (.tuple #[.string ⟨(Lib.cut s.data.toList sep.data.toList).1.toArray⟩,.string ⟨(Lib.cut s.data.toList sep.data.toList).2.1.toArray⟩,.bool (Lib.cut s.data.toList sep.data.toList).2.2])∧Below w.heap.size w w':=by
 obtain ⟨m,hm⟩:=hg.maxLen
 refine (Tryz.strings_Cut s sep m w (by omega) hm).mono ?_
 rintro e w' ⟨rfl,n,rfl⟩
 exact ⟨rfl,below_drews w n⟩
theorem str_contains (s sub:ByteArray) (w:World) (hg:GW w) (hs:s.size≤1000000) :
  Calls Tryz.prog 81 #[.string s,.string sub] w fun e w'=>e=.returned (.bool (Lib.contains s.data.toList sub.data.toList))∧Below w.heap.size w w':=by
 obtain ⟨m,hm⟩:=hg.maxLen
 refine (Tryz.strings_Contains s sub m w (by omega) hm).mono ?_
 rintro e w' ⟨rfl,rfl⟩
 exact ⟨rfl,Below.refl _ _⟩
def digs:Bs:=[48,49,50,51,52,53,54,55,56,57]
theorem digs_is (b:UInt8):digs.contains b=isDig b:=by
 have:∀ n:Fin 256,digs.contains (UInt8.ofNat n.val)=isDig (UInt8.ofNat n.val):=by decide +kernel
 have h:=this ⟨b.toNat,b.toNat_lt⟩
 simpa using h
theorem dropWhile_nil {α:Type} (p:α→Bool):∀ l:List α,l.dropWhile p=[]↔∀ b ∈ l,p b=true
 | []=>by simp
 | a :: l=>by
  rw [List.dropWhile_cons]
  split
  ·rename_i h;rw [dropWhile_nil p l];simp [h]
  ·rename_i h;simp [h]
theorem dropWhile_head {α:Type} (p:α→Bool):∀ (l:List α) {x:α} {r:List α},l.dropWhile p=x :: r→p x=false
 | [],_,_,h=>by simp at h
 | a :: l,x,r,h=>by
  rw [List.dropWhile_cons] at h
  split at h
  ·exact dropWhile_head p l h
  ·rename_i hp;cases h;simpa using hp
theorem trim_nil (l:Bs):Lib.trimS l digs=[]↔∀ b ∈ l,isDig b=true:=by
 unfold Lib.trimS Lib.trimLeftS Lib.trimRightS
 constructor
 ·intro h
  have h1:=(dropWhile_nil _ _).1 h
  intro b hb
  by_cases hd:isDig b=true
  ·exact hd
  ·exfalso
   have hne:List.dropWhile (fun x=>digs.contains x) l.reverse≠[]:=fun e=>by
    have:=(dropWhile_nil _ _).1 e b (by simpa using hb)
    rw [digs_is] at this;exact hd this
   obtain ⟨x,r,hx⟩:=List.exists_cons_of_ne_nil hne
   have hh:=dropWhile_head _ _ hx
   have:=h1 x (by rw [hx];simp)
   rw [this] at hh;cases hh
 ·intro h
  have:List.dropWhile (fun x=>digs.contains x) l.reverse=[]:=(dropWhile_nil _ _).2 fun b hb=>by
   rw [digs_is];exact h b (by simpa using hb)
  rw [this];rfl
theorem trim_table:(Tryz.prog.info? 250).map (fun i=>(i.zero,i.size))=some (some (.agg (Array.replicate 256 (.bool false))),256):=by kernel_rfl
theorem str_trim (s:ByteArray) (w:World) (hs:s.size≤1000000) :
  Calls Tryz.prog 128 #[.string s,.string ⟨#[48,49,50,51,52,53,54,55,56,57]⟩] w fun e w'=>e=.returned (.string ⟨(Lib.trimS s.data.toList digs).toArray⟩)∧Below w.heap.size w w' :=
 Any.strings_Trim_laid Tryz.lays160 trim_table s ⟨#[48,49,50,51,52,53,54,55,56,57]⟩ w (by omega) (by decide) (ascii_of_all (by decide))
theorem num?_isSome {l:Bs} (h1:l≠[]) (h2:l.length≤9) (h3:∀ b ∈ l,isDig b=true) (h4:¬ (1<l.length∧l.head?=some 48)):∃ n,num? l=some n∧Lib.atoi l=some (n:Int):=by
 have key:∀ (l:Bs) (acc:Nat),(∀ b ∈ l,isDig b=true)→∃ n,Lib.decFrom acc l=some n:=by
  intro l
  induction l with
  | nil=>exact fun acc _=>⟨acc,rfl⟩
  | cons b l ih =>
   intro acc h
   have hb:=h b (by simp)
   rw [isDig_val] at hb
   obtain ⟨d,hd⟩:=Option.isSome_iff_exists.1 hb
   obtain ⟨n,hn⟩:=ih (acc * 10+d) (fun b hb=>h b (List.mem_cons_of_mem _ hb))
   exact ⟨n,by simp only [Lib.decFrom,hd];exact hn⟩
 obtain ⟨n,hn⟩:=key l 0 h3
 have hdec:Lib.decNat l=some n:=by
  unfold Lib.decNat
  rw [if_neg (by simpa using h1)];exact hn
 refine ⟨n,?_,?_⟩
 ·unfold num?
  rw [if_neg (by rintro (h|h|h);exact h1 h;omega;exact h4 h)]
  exact hdec
 ·match l,h1,h3,hdec with
  | b :: r,_,h3,hdec =>
   have hb:=h3 b (by simp)
   have h45:(b == 45)=false:=by
    rw [beq_eq_false_iff_ne];rintro rfl;cases hb
   have h43:(b == 43)=false:=by
    rw [beq_eq_false_iff_ne];rintro rfl;cases hb
   unfold Lib.atoi
   simp [h45,h43,hdec]
theorem num?_none {l:Bs} (h:l=[]∨9<l.length∨(∃ b ∈ l,isDig b=false)∨(1<l.length∧l.head?=some 48)):num? l=none:=by
 unfold num?
 rcases h with h|h|⟨b,hb,hd⟩|h
 ·rw [if_pos (.inl h)]
 ·rw [if_pos (.inr (.inl h))]
 ·split
  ·rfl
  ·cases e:Lib.decNat l with
   | none=>rfl
   | some n =>
    exfalso
    obtain ⟨-,hn⟩:=Lib.decNat_some e
    obtain ⟨k,hk⟩:=List.getElem?_of_mem hb
    obtain ⟨d,hv⟩:=Lib.digit_of_decFrom _ _ _ hn k b hk
    rw [isDig_val,hv] at hd;cases hd
 ·rw [if_pos (.inr (.inr h))]
theorem rule_number (w:World) (s:ByteArray) (hs:s.size≤1000000) :
  Calls Tryz.prog 82 #[.string s] w fun e w'=>e=.returned (.tuple #[.int .i64 (((num? s.data.toList).getD 0:Nat):Int),.bool (num? s.data.toList).isSome])∧Below w.heap.size w w':=by
 by_cases h0:s.data.toList=[]
 ·have e:s=⟨#[]⟩:=by rw [← mk_data s,h0]
  subst e
  have hn:num? (⟨#[]⟩:ByteArray).data.toList=none:=num?_none (.inl rfl)
  rw [hn]
  clear hn h0
  go_enter Tryz.func82,Tryz.ntmps82
  go_wp2_with fail
  go_ret2
  exact ⟨rfl,Below.refl _ _⟩
 ·have he:s.toList.isEmpty=false:=by
   rw [Lib.toList_data];cases h:s.data.toList with
   | nil=>exact absurd h h0
   | cons a b=>rfl
  have hlen:s.data.toList.length=s.size:=(Lib.size_eq s).symm
  by_cases h9:9<s.size
  ·have hn:num? s.data.toList=none:=num?_none (.inr (.inl (by omega)))
   rw [hn]
   have h9':(9:Int)<(s.size:Int):=by omega
   clear hn hlen h0
   go_enter Tryz.func82,Tryz.ntmps82
   go_wp2_with fail
   go_ret2
   exact ⟨rfl,Below.refl _ _⟩
  ·have h9':¬ (9:Int)<(s.size:Int):=by omega
   by_cases hd:∀ b ∈ s.data.toList,isDig b=true
   ·have ht:Lib.trimS s.data.toList digs=[]:=(trim_nil _).2 hd
    have HT:=qh ht
    by_cases hz:1<s.data.toList.length∧s.data.toList.head?=some 48
    ·have hn:num? s.data.toList=none:=num?_none (.inr (.inr (.inr hz)))
     rw [hn]
     have h1:(1:Int)<(s.size:Int):=by omega
     have h0':0<s.size:=by omega
     have hc:((s[0].toNat:Int) == 48)=true:=by
      have:=hz.2
      rw [List.head?_eq_getElem?,Lib.data_getElem? s 0 h0'] at this
      rw [Option.some.inj this];rfl
     clear hn hlen h0 hz ht hd
     go_enter Tryz.func82,Tryz.ntmps82
     go_wp2_with ((with_reducible refine (str_trim s _ hs).mono ?_);rintro e w1 ⟨rfl,hb⟩;rw [HT.out];have HB:=qh hb;clear hb)
     go_ret2
     exact ⟨rfl,HB.out⟩
    ·obtain ⟨n,hn,ha⟩:=num?_isSome h0 (by omega) hd hz
     rw [hn]
     have HA:=qh ha
     by_cases h1:1<s.size
     ·have h1':(1:Int)<(s.size:Int):=by omega
      have h0':0<s.size:=by omega
      have hc:((s[0].toNat:Int) == 48)=false:=by
       rw [beq_eq_false_iff_ne]
       intro e
       refine hz ⟨by omega,?_⟩
       rw [List.head?_eq_getElem?,Lib.data_getElem? s 0 h0']
       congr 1
       apply UInt8.toNat_inj.1
       exact Int.ofNat.inj e
      clear hn hlen h0 hz ht hd ha
      go_enter Tryz.func82,Tryz.ntmps82
      go_wp2_with (first
       | ((with_reducible refine (str_trim s _ hs).mono ?_);rintro e w1 ⟨rfl,hb⟩;rw [HT.out];have HB:=qh hb;clear hb)
       | ((with_reducible refine (Tryz.strconv_Atoi s n (by omega) HA.out _).mono ?_);rintro e w2 ⟨rfl,t,rfl⟩))
      go_quiet (fail)
      go_wp2_with fail
      go_ret2
      exact ⟨rfl,below_drewN (HB.out.trans ((Lib.bytesWorld_below _ _ _).mono HB.out.size)) _⟩
     ·have h1':¬ (1:Int)<(s.size:Int):=by omega
      clear hn hlen h0 hz ht hd ha
      go_enter Tryz.func82,Tryz.ntmps82
      go_wp2_with (first
       | ((with_reducible refine (str_trim s _ hs).mono ?_);rintro e w1 ⟨rfl,hb⟩;rw [HT.out];have HB:=qh hb;clear hb)
       | ((with_reducible refine (Tryz.strconv_Atoi s n (by omega) HA.out _).mono ?_);rintro e w2 ⟨rfl,t,rfl⟩))
      go_quiet (fail)
      go_wp2_with fail
      go_ret2
      exact ⟨rfl,below_drewN (HB.out.trans ((Lib.bytesWorld_below _ _ _).mono HB.out.size)) _⟩
   ·have hx:∃ b ∈ s.data.toList,isDig b=false:=by
     simp only [Classical.not_forall] at hd
     obtain ⟨b,hb,h⟩:=hd
     exact ⟨b,hb,by simpa using h⟩
    have hn:num? s.data.toList=none:=num?_none (.inr (.inr (.inl hx)))
    rw [hn]
    have ht:Lib.trimS s.data.toList digs≠[]:=fun e=>hd ((trim_nil _).1 e)
    obtain ⟨t,hteq,hte⟩:∃ t:ByteArray,(⟨(Lib.trimS s.data.toList digs).toArray⟩:ByteArray)=t∧t.toList.isEmpty=false:=by
     refine ⟨_,rfl,?_⟩
     rw [Lib.toList_data]
     cases h:Lib.trimS s.data.toList digs with
     | nil=>exact absurd h ht
     | cons a b=>rfl
    have HT:=qh hteq
    clear hn hlen h0 ht hd hx hteq
    go_enter Tryz.func82,Tryz.ntmps82
    go_wp2_with ((with_reducible refine (str_trim s _ hs).mono ?_);rintro e w1 ⟨rfl,hb⟩;rw [HT.out];have HB:=qh hb;clear hb)
    go_ret2
    exact ⟨rfl,HB.out⟩
theorem Tryz_info9:(Tryz.prog.info? 9).map (fun i=>(i.zero,i.size,i.bytes))=some (some (.string ByteArray.empty),1,16):=by kernel_rfl
theorem Tryz_info54:(Tryz.prog.info? 54).map (fun i=>(i.zero,i.size,i.bytes))=some (some (.slice none 0 0),1,24):=by kernel_rfl
def strs (ws:List Bs):List Value:=ws.map fun b=>Value.string ⟨b.toArray⟩
theorem strs_len (ws:List Bs):(strs ws).length=ws.length:=by simp [strs]
theorem strs_app (a b:List Bs):strs (a ++ b)=strs a ++ strs b:=by simp [strs]
def OwnS (w:World) (B:Nat) (x:Value) (ws:List Bs):Prop:=w.ownsRow B 9 1 x ws.length (strs ws)
def Apart (x y:Value):Prop:=x.ownBlock=none∨x.ownBlock≠y.ownBlock
structure CutI (w:World) (B:Nat) (v:Value) (xs:List Value) (rows:List (List Bs)):Prop where
 out:w.ownsRow B 54 1 v rows.length xs
 rows:F2 (OwnS w B) xs rows
 apart:∀ x ∈ xs,Apart x v
 pair:xs.Pairwise Apart
theorem F2.snoc {α β:Type} {R:α→β→Prop}:∀ {l:List α} {r:List β} {a:α} {b:β},F2 R l r→R a b→F2 R (l ++ [a]) (r ++ [b])
 | _,_,_,_,.nil,h=>.cons h .nil
 | _,_,_,_,.cons k ks,h=>.cons k (ks.snoc h)
theorem F2.unsnoc {α β:Type} {R:α→β→Prop}:∀ {l:List α} {r:List β} {b:β},F2 R l (r ++ [b])→∃ l' a,l=l' ++ [a]∧F2 R l' r∧R a b
 | _,[],_,.cons h .nil=>⟨[],_,rfl,.nil,h⟩
 | _,_ :: r,_,.cons h hs=>by
  obtain ⟨l',a,rfl,h1,h2⟩:=F2.unsnoc hs
  exact ⟨_ :: l',a,rfl,.cons h h1,h2⟩
theorem F2.mono_mem {α β:Type} {R S:α→β→Prop}:∀ {l:List α} {r:List β},F2 R l r→(∀ a ∈ l,∀ b,R a b→S a b)→F2 S l r
 | _,_,.nil,_=>.nil
 | _,_,.cons h hs,k=>.cons (k _ (by simp) _ h) (hs.mono_mem fun a ha=>k a (List.mem_cons_of_mem _ ha))
theorem Apart.kept {x y:Value} (h:Apart x y):x.ownBlock=none∨x.ownBlock≠y.ownBlock:=h
theorem OwnS.lt {w:World} {B:Nat} {x:Value} {ws:List Bs} (h:OwnS w B x ws) {k:Nat} (hk:x.ownBlock=some k):k<w.heap.size:=(World.ownsRow.lt h k hk).2
theorem OwnS.kept {w w':World} {B:Nat} {x v:Value} {ws:List Bs} (h:OwnS w B x ws) (hg:w.grownBy w' v.ownBlock) (ha:Apart x v):OwnS w' B x ws:=World.ownsRow.kept h hg ha
theorem OwnS.alloc {w:World} {B:Nat} {x:Value} {ws:List Bs} (h:OwnS w B x ws) (o:Obj):OwnS (w.alloc o) B x ws:=World.ownsRow.alloc h o
theorem CutI.alloc {w:World} {B:Nat} {v:Value} {xs:List Value} {rows:List (List Bs)} (h:CutI w B v xs rows) (o:Obj):CutI (w.alloc o) B v xs rows :=
 ⟨h.out.alloc o,h.rows.mono fun _ _ k=>k.alloc o,h.apart,h.pair⟩
theorem CutI.form {w:World} {B:Nat} {v:Value} {xs:List Value} {rows:List (List Bs)} (h:CutI w B v xs rows) (h0:rows≠[]):∃ g cap,v=.slice (some ⟨g,0,none⟩) rows.length cap:=by
 rcases h.out.2 with ⟨-,hn⟩|⟨g,cap,cur,hv,-⟩
 ·exact absurd (List.eq_nil_of_length_eq_zero hn) h0
 ·exact ⟨g,cap,hv⟩
theorem CutI.first (w:World) (B:Nat) (hB:B≤w.heap.size):CutI (w.alloc (.cells #[.slice none 0 0] 54)) B (.slice (some ⟨w.heap.size,0,none⟩) 1 1) [.slice none 0 0] [[]] :=
 ⟨World.ownsRow_lit w #[.slice none 0 0] 1 hB (by decide) rfl,.cons (World.ownsRow_nil _ _ _ _) .nil,fun x hx=>by
  have:x=.slice none 0 0:=by simpa using hx
  subst this;exact .inl rfl,by simp⟩
theorem CutI.push {w w':World} {B:Nat} {v v':Value} {xs:List Value} {rows:List (List Bs)} (h:CutI w B v xs rows) (hg:w.grownBy w' v.ownBlock)
  (ho:w'.ownsRow B 54 1 v' (rows.length+1) (xs ++ [.slice none 0 0])) (hat:v.ownBlock=v'.ownBlock∨v'.ownBlock=some w.heap.size):CutI w' B v' (xs ++ [.slice none 0 0]) (rows ++ [[]]):=by
 refine ⟨by simpa using ho,?_,?_,?_⟩
 ·exact (h.rows.mono_mem fun x hx ws k=>k.kept hg (h.apart x hx)).snoc (World.ownsRow_nil _ _ _ _)
 ·intro x hx
  rcases List.mem_append.1 hx with hx|hx
  ·rcases hat with e|e
   ·unfold Apart;rw [← e];exact h.apart x hx
   ·cases hb:x.ownBlock with
    | none=>exact .inl hb
    | some k =>
     right
     rw [e,hb]
     have:=F2.left (p:=fun x=>∀ k,x.ownBlock=some k→k<w.heap.size) (fun a b hab k hk=>hab.lt hk) h.rows x hx k hb
     intro e';cases e';omega
  ·have:x=.slice none 0 0:=by simpa using hx
   subst this;exact .inl rfl
 ·rw [List.pairwise_append]
  refine ⟨h.pair,by simp,fun x hx y hy=>?_⟩
  have:y=.slice none 0 0:=by simpa using hy
  subst this
  cases hb:x.ownBlock with
  | none=>exact .inl hb
  | some k=>exact .inr (by rw [hb];simp [Value.ownBlock])
theorem CutI.grow {w w':World} {B g cap n g' cap':Nat} {xs:List Value} {x:Value} {rows:List (List Bs)} {r:List Bs} {t:Bs} (hl:xs.length=n)
  (h:CutI w B (.slice (some ⟨g,0,none⟩) (n+1) cap) (xs ++ [x]) (rows ++ [r])) (hg:w.grownBy w' x.ownBlock)
  (ho:w'.ownsRow B 9 1 (.slice (some ⟨g',0,none⟩) (r.length+1) cap') (r.length+1) (strs r ++ [.string ⟨t.toArray⟩])) (hat:x.ownBlock=some g'∨g'=w.heap.size) :
  CutI (w'.setCell ⟨g,n,none⟩ (.slice (some ⟨g',0,none⟩) (r.length+1) cap')) B (.slice (some ⟨g,0,none⟩) (n+1) cap) (xs ++ [.slice (some ⟨g',0,none⟩) (r.length+1) cap']) (rows ++ [r ++ [t]])∧w'.cell? ⟨g,n,none⟩=some x∧w'.frozen? ⟨g,n,none⟩=false:=by
 obtain ⟨hxs,-,hr⟩:=F2.unsnoc h.rows |>.imp fun _ h=>h.imp fun _ h=>h
 have hF:=h.rows
 obtain ⟨l',a,e,hF1,hF2⟩:=F2.unsnoc hF
 obtain ⟨rfl,e2⟩:=List.append_inj' e rfl
 cases e2
 have hlen:rows.length=n:=by rw [← hF1.len,hl]
 have hout:=h.out
 have hax:Apart x (.slice (some ⟨g,0,none⟩) (n+1) cap):=h.apart x (by simp)
 have hvx:Value.ownBlock (.slice (some ⟨g,0,none⟩) (n+1) cap)=none∨Value.ownBlock (.slice (some ⟨g,0,none⟩) (n+1) cap)≠x.ownBlock:=by
  right
  rcases hax with h|h
  ·rw [h];simp [Value.ownBlock]
  ·exact Ne.symm h
 have hn:(rows ++ [r]).length=n+1:=by simp [hlen]
 rw [hn] at hout
 have ho1:=hout.kept hg hvx
 have hst:=ho1.stored n (.slice (some ⟨g',0,none⟩) (r.length+1) cap')
 have hgne:g'≠g:=by
  rintro rfl
  rcases hat with h|h
  ·rcases hax with h'|h'
   ·rw [h'] at h;cases h
   ·exact h' h
  ·have:=(hout.lt g' rfl).2;omega
 have hset:(xs ++ [x]).set n (.slice (some ⟨g',0,none⟩) (r.length+1) cap')=xs ++ [.slice (some ⟨g',0,none⟩) (r.length+1) cap']:=by
  rw [List.set_append_right _ _ (by omega),hl];simp
 rw [hset] at hst
 refine ⟨⟨?_,?_,?_,?_⟩,?_,ho1.frozenAt n⟩
 ·have e:(rows ++ [r ++ [t]]).length=n+1:=by simp [hlen]
  rw [e];exact hst.1
 ·refine F2.snoc ?_ ?_
  ·refine (hF1.mono_mem fun y hy ws k=>?_)
   have hyx:Apart y x:=(List.pairwise_append.1 h.pair).2.2 y hy x (by simp)
   have k1:=k.kept hg hyx
   exact World.ownsRow.kept k1 hst.2 (h.apart y (by simp [hy]))
  ·show World.ownsRow _ B 9 1 _ (r ++ [t]).length (strs (r ++ [t]))
   rw [strs_app,List.length_append]
   exact ho.kept hst.2 (.inr (by simp only [Value.ownBlock,ne_eq,Option.some.injEq];exact hgne))
 ·intro y hy
  rcases List.mem_append.1 hy with hy|hy
  ·exact h.apart y (by simp [hy])
  ·have:y=.slice (some ⟨g',0,none⟩) (r.length+1) cap':=by simpa using hy
   subst this
   exact .inr (by simp only [Value.ownBlock,ne_eq,Option.some.injEq];exact hgne)
 ·rw [List.pairwise_append]
  refine ⟨(List.pairwise_append.1 h.pair).1,by simp,fun y hy z hz=>?_⟩
  have:z=.slice (some ⟨g',0,none⟩) (r.length+1) cap':=by simpa using hz
  subst this
  cases hb:y.ownBlock with
  | none=>exact .inl hb
  | some k =>
   right
   rw [hb]
   rcases hat with e|e
   ·have hyx:Apart y x:=(List.pairwise_append.1 h.pair).2.2 y hy x (by simp)
    rcases hyx with h'|h'
    ·rw [h'] at hb;cases hb
    ·rw [hb,e] at h';exact h'
   ·have:=F2.left (p:=fun x=>∀ k,x.ownBlock=some k→k<w.heap.size) (fun a b hab k hk=>hab.lt hk) hF1 y hy k hb
    simp only [Value.ownBlock,ne_eq,Option.some.injEq];omega
 ·rw [ho1.cellAt n (by omega),List.getElem?_append_right (by omega),hl];simp
theorem F2.at {α β:Type} {R:α→β→Prop}:∀ {l:List α} {r:List β},F2 R l r→∀ (j:Nat) (b:β),r[j]?=some b→∃ a,l[j]?=some a∧R a b
 | _,_,.nil,j,b,h=>by simp at h
 | _,_,.cons h hs,0,b,hb=>by simp at hb;subst hb;exact ⟨_,rfl,h⟩
 | _,_,.cons h hs,j+1,b,hb=>by simpa using hs.at j b (by simpa using hb)
def RowsAre (w:World) (B:Nat) (A:Option Addr) (n c:Nat) (rows:List (List Bs)):Prop :=
 ∃ xs:List Value,SlC w (.slice A n c) 1 rows.length xs∧(∀ k,Value.ownBlock (.slice A n c)=some k→B≤k)∧F2 (fun x ws=>∃ A n c,x=.slice A n c∧StrsAre w A n c ws∧∀ k,x.ownBlock=some k→B≤k) xs rows
theorem RowsAre.below {w w':World} {C:Nat} {A:Option Addr} {n c B:Nat} {rows:List (List Bs)} (h:RowsAre w C A n c rows) (hb:Below B w w') (hB:w.heap.size≤B):RowsAre w' C A n c rows:=by
 obtain ⟨xs,h1,h2,h3⟩:=h
 exact ⟨xs,h1.below hb hB,h2,h3.mono fun x ws ⟨A,n,c,e,k,h⟩=>⟨A,n,c,e,k.below hb hB,h⟩⟩
theorem RowsAre.len {w:World} {C:Nat} {A:Option Addr} {n c:Nat} {rows:List (List Bs)} (h:RowsAre w C A n c rows):n=rows.length:=by
 obtain ⟨xs,⟨A',c',h1,-⟩,-⟩:=h
 exact (Value.slice.inj h1).2.1
theorem RowsAre.at {w:World} {C:Nat} {A:Option Addr} {n c:Nat} {rows:List (List Bs)} (h:RowsAre w C A n c rows) (h0:0<rows.length):∃ b o,A=some ⟨b,o,none⟩∧C≤b∧∀ j r,rows[j]?=some r→∃ A n c,w.cell? ⟨b,o+j,none⟩=some (.slice A n c)∧StrsAre w A n c r∧∀ k,Value.ownBlock (.slice A n c)=some k→C≤k:=by
 obtain ⟨xs,⟨A',c',h1,h2,h3,h4⟩,h8,h5⟩:=h
 obtain ⟨b,o,h6,h7⟩:=h4 (by omega)
 obtain ⟨rfl,-,-⟩:=Value.slice.inj h1
 refine ⟨b,o,h6,h8 b (by rw [h6];rfl),fun j r hr=>?_⟩
 obtain ⟨x,hx,A,n,c,rfl,hs,hk⟩:=h5.at j r hr
 exact ⟨A,n,c,h7 j _ hx,hs,hk⟩
theorem CutI.are {w:World} {B:Nat} {v:Value} {xs:List Value} {rows:List (List Bs)} (h:CutI w B v xs rows):∃ A n c,v=.slice A n c∧RowsAre w B A n c rows:=by
 have h1:=SlC.own h.out
 obtain ⟨A,c,rfl,-⟩:=h1
 refine ⟨A,_,c,rfl,xs,SlC.own h.out,fun k hk=>(h.out.lt k hk).1,h.rows.mono fun x ws k=>?_⟩
 have k1:=SlC.own k
 obtain ⟨A,c,rfl,-⟩:=k1
 exact ⟨A,_,c,rfl,SlC.own k,fun j hj=>(World.ownsRow.lt k j hj).1⟩
def RetSS (e:Ending) (w':World) (B:Nat) (rows:List (List Bs)):Prop:=∃ A n c,e=.returned (.slice A n c)∧RowsAre w' B A n c rows
theorem splitG_snoc_eq {α:Type} [DecidableEq α] (c:α) (l:List α):splitG c (l ++ [c])=splitG c l ++ [[]]:=splitG_app c l []
theorem splitG_snoc_ne {α:Type} [DecidableEq α] {c x:α} (h:x≠c):∀ l:List α,∃ i r,splitG c l=i ++ [r]∧splitG c (l ++ [x])=i ++ [r ++ [x]]
 | []=>⟨[],[],rfl,splitG_other h rfl⟩
 | b :: l=>by
  obtain ⟨i,r,e1,e2⟩:=splitG_snoc_ne h l
  by_cases hb:b=c
  ·subst hb
   exact ⟨[] :: i,r,by rw [splitG_eq,e1];rfl,by rw [List.cons_append,splitG_eq,e2];rfl⟩
  ·cases i with
   | nil=>exact ⟨[],b :: r,by rw [splitG_other hb e1];rfl,by rw [List.cons_append,splitG_other hb e2];rfl⟩
   | cons y i=>exact ⟨(b :: y) :: i,r,by rw [splitG_other hb e1];rfl,by rw [List.cons_append,splitG_other hb e2];rfl⟩
theorem str_eq (x y:ByteArray):(x.toList == y.toList)=decide (x.data.toList=y.data.toList):=by
 rw [Lib.toList_data,Lib.toList_data,Bool.eq_iff_iff,beq_iff_eq,decide_eq_true_eq]
theorem below_grown {B:Nat} {W w w':World} {row:Option Nat} (h:Below B W w) (hg:w.grownBy w' row) (hB:B≤w.heap.size) (hr:∀ k,row=some k→B≤k):Below B W w' :=
 ⟨hg.os.trans h.os,hg.tape.trans h.tape,hg.output.trans h.output,Nat.le_trans h.size hg.size,fun k hk=>(hg.block k (Nat.lt_of_lt_of_le hk hB) (fun e=>by have:=hr k e.symm;omega)).trans (h.block k hk)⟩
theorem splitG_length {α:Type} [DecidableEq α] (c:α):∀ l:List α,(splitG c l).length≤l.length+1
 | []=>ql
 | b :: l=>by
  have ih:=splitG_length c l
  by_cases h:b=c
  ·subst h;rw [splitG_eq];simp;exact ih
  ·obtain ⟨x,t,e⟩:=splitG_ex c l
   rw [splitG_other h e];rw [e] at ih;simp at ih ⊢;omega
theorem splitG_mem_len {α:Type} [DecidableEq α] (c:α):∀ (l w:List α),w ∈ splitG c l→w.length≤l.length
 | [],w,h=>by
  have:w=[]:=by simpa [splitG] using h
  subst this;simp
 | b :: l,w,h=>by
  by_cases hb:b=c
  ·subst hb
   rw [splitG_eq] at h
   rcases List.mem_cons.1 h with rfl|h
   ·simp
   ·have:=splitG_mem_len b l w h;simp;omega
  ·obtain ⟨x,t,e⟩:=splitG_ex c l
   rw [splitG_other hb e] at h
   have:=splitG_mem_len c l
   rw [e] at this
   rcases List.mem_cons.1 h with rfl|h
   ·have:=this x (by simp);simp;omega
   ·have:=this w (by simp [h]);simp;omega
theorem maxLen_ge:140737488355328≤maxLen:=by decide
def CutW (ws:List Bs) (at':Bs) (W:World) (B:Nat) (v i:Value) (wr:World):Prop :=
 ∃ (k:Nat) (xs:List Value),k≤ws.length∧i=.int .i64 k∧CutI wr B v xs (splitG at' (ws.take k))∧Below B W wr
theorem rule_cut (w:World) (A:Option Addr) (n c:Nat) (ws:List Bs) (s:ByteArray) (h:StrsAre w A n c ws) (hl:ws.length≤1000000) :
  Calls Tryz.prog 45 #[.slice A n c,.string s] w fun e w'=>RetSS e w' w.heap.size (splitG s.data.toList ws)∧Below w.heap.size w w':=by
 obtain rfl:n=ws.length:=h.len
 have HX:=qh h
 have hlI:(ws.length:Int)≤1000000:=by omega
 obtain ⟨i0,hi,hz0,hz1,hz2⟩:=info_parts Tryz_info54
 obtain ⟨i9,hi9,hz90,hz91,hz92⟩:=info_parts Tryz_info9
 clear h
 go_enter Tryz.func45,Tryz.ntmps45
 go_wp2_with fail
 go_loopw [5,11] (CutW ws s.data.toList w w.heap.size) (fun _ i _=>ws.length - (intOf i).toNat)
 case atStart =>
  exact ⟨0,_,Nat.zero_le _,rfl,CutI.first w w.heap.size ql,(Below.refl _ _).alloc ql _⟩
 case round =>
  obtain ⟨k,xs,hk,rfl,hI,hb⟩:=hrel
  by_cases hlt:k<ws.length
  ·obtain ⟨b,o,rfl,hc⟩:=(HX.out.below hb ql).at (by omega)
   obtain ⟨t,ht⟩:∃ t,ws[k]?=some t:=⟨ws[k],List.getElem?_eq_getElem hlt⟩
   have hck:=hc k t ht
   have htk:ws.take (k+1)=ws.take k ++ [t]:=by rw [List.take_add_one,ht];rfl
   have HTK:=qh htk
   have hkI:(k:Int)<(ws.length:Int):=by omega
   have HB:=qh hb
   clear hc hb htk ht
   obtain ⟨g,cap,hv⟩:=hI.form (splitG_ne _ _)
   have hm:=splitG_length s.data.toList (ws.take k)
   have hm2:(ws.take k).length≤k:=List.length_take_le _ _
   by_cases he:t=s.data.toList
   ·have hte:(t == s.toList)=true:=by rw [Lib.toList_data];simpa using he
    have hnx:splitG s.data.toList (ws.take (k+1))=splitG s.data.toList (ws.take k) ++ [[]]:=by rw [HTK.out,he];exact splitG_snoc_eq _ _
    have HN:=qh hnx
    clear he hnx
    generalize splitG s.data.toList (ws.take k)=rows at *
    subst hv
    have hgB:=(hI.out.lt g rfl).1
    have HI:=qh (hI.alloc (.cells #[.slice none 0 0] 54))
    clear hI
    have hmx:=maxLen_ge
    go_wp2_with (at_builtin;refine wpList_append_lies _ (by rfl) _ _ 94 (by rfl) w.heap.size 54 i0 (.slice none 0 0) 1 24 Tryz.underlying94 hi hz0 hz1 hz2 rfl (by decide) _ _ xs (by rfl) HI.out.out ⟨wr.heap.size,0,none⟩ 1 1 [.slice none 0 0] (by rfl) rfl (cell_one_new _ _ _) (by simp [Value.oneCell']) (by omega) (by omega) (by omega) (Nat.le_trans HB.out.size (by simp)) (wr.heap.size+1) (by simp) ?_;intro g' cap' w1 hown hgrow hat hlt';have HO:=qh hown;have HG:=qh hgrow;have HAT:=qh hat;clear hown hgrow hat)
    go_roundw
    case rel =>
     refine ⟨k+1,xs ++ [.slice none 0 0],by omega,by go_num,?_,below_grown (HB.out.alloc HB.out.size _) HG.out (Nat.le_trans HB.out.size (by simp)) (by intro j hj;cases hj;exact hgB)⟩
     rw [HN.out]
     refine HI.out.push HG.out HO.out ?_
     rcases HAT.out with h|h
     ·exact .inl h
     ·right;rw [h];simp [Value.ownBlock]
    case measure=>simp [intOf];omega
   ·have hte:(t == s.toList)=false:=by rw [Lib.toList_data];simpa using he
    obtain ⟨ri,r,e1,e2⟩:=splitG_snoc_ne he (ws.take k)
    rw [← HTK.out] at e2
    have HN:=qh e2
    have hrl:r.length≤k:=Nat.le_trans (splitG_mem_len s.data.toList (ws.take k) r (by rw [e1];simp)) hm2
    rw [e1] at hI hm hv
    clear he e2 e1
    obtain ⟨xi,x,rfl,hF1,hF2⟩:=F2.unsnoc hI.rows
    have hxl:=hF1.len
    obtain ⟨m,hml⟩:∃ m,xi.length=m:=⟨_,rfl⟩
    have hrm:ri.length=m:=by omega
    rw [show (ri ++ [r]).length=m+1 by simp [hrm]] at hv
    subst hv
    have hgB:=(hI.out.lt g rfl).1
    have hO:=hI.out
    rw [show (ri ++ [r]).length=m+1 by simp [hrm]] at hO hm
    have hcell:wr.cell? ⟨g,m,none⟩=some x:=by
     rw [hO.cellAt m (by omega),List.getElem?_append_right (by omega),hml];simp
    have HI:=qh hI
    have H2:=qh hF2
    have HML:=qh hml
    clear hI hF1 hF2 hxl hml hrm hO
    have hm0:(0:Int)≤(m:Int):=by omega
    have hmx:=maxLen_ge
    go_wp2_with (at_builtin;refine wpList_append_lies _ (by rfl) _ _ 54 (by rfl) w.heap.size 9 i9 (.string ByteArray.empty) 1 16 Tryz.underlying54 hi9 hz90 hz91 hz92 rfl (by decide) x r.length (strs r) (by rfl) (World.ownsRow.alloc H2.out _) ⟨wr.heap.size,0,none⟩ 1 1 [.string ⟨t.toArray⟩] (by rfl) rfl (cell_one_new _ _ _) (by simp [Value.oneCell']) (by omega) (by omega) (by omega) (Nat.le_trans HB.out.size (by simp)) (wr.heap.size+1) (by simp) ?_;intro g' cap' w1 hown hgrow hat hlt';have HO:=qh hown;have HG:=qh hgrow;have HAT:=qh hat;clear hown hgrow hat;obtain ⟨hfin,hc1,hf1⟩:=CutI.grow HML.out (HI.out.alloc (.cells #[.string ⟨t.toArray⟩] 9)) HG.out HO.out (HAT.out.imp id fun h=>by rw [h];simp);have HFIN:=qh hfin;clear hfin hcell)
    go_roundw
    case rel =>
     refine ⟨k+1,_,by omega,by go_num,HN.out ▸ HFIN.out,below_set (below_grown (HB.out.alloc HB.out.size _) HG.out (Nat.le_trans HB.out.size (by simp)) (fun j hj=>(World.ownsRow.lt H2.out j hj).1)) g m hgB _⟩
    case measure=>simp [intOf];omega
  ·have hk2:k=ws.length:=by omega
   subst hk2
   have hkI:¬ (ws.length:Int)<(ws.length:Int):=by omega
   rw [List.take_length] at hI
   obtain ⟨A',n',c',rfl,hR⟩:=hI.are
   have HR:=qh hR
   have HB:=qh hb
   clear hI hR hb
   go_wp2_with fail
   go_ret
   exact ⟨⟨_,_,_,rfl,HR.out⟩,HB.out⟩
end Go.Proofs.YtdgleeglndcjhaaGreatDoor
