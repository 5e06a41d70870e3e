import Derived.Test.YtdgleeglndcjhaaGreatDoorW17
import Derived.Deep.CutBlock
import Derived.Test.YtdgleeglndcjhaaGreatDoorW18
import Derived.Test.YtdgleeglndcjhaaGreatDoorW19
import Derived.Test.YtdgleeglndcjhaaGreatDoorW01
set_option linter.unusedSimpArgs false
set_option linter.unusedVariables false
set_option maxHeartbeats 8000000
set_option maxRecDepth 100000
namespace Go.Proofs.YtdgleeglndcjhaaGreatDoor
open Go.RowKit
def IL (w:World) (A:Option Addr) (n c:Nat) (l:List Nat):Prop:=SlC w (.slice A n c) 1 l.length (l.map fun x:Nat=>Value.int .i64 (x:Int))
theorem IL.below {w w':World} {A:Option Addr} {n c B:Nat} {l:List Nat} (h:IL w A n c l) (hb:Below B w w') (hB:w.heap.size≤B):IL w' A n c l:=SlC.below h hb hB
theorem IL.len {w:World} {A:Option Addr} {n c:Nat} {l:List Nat} (h:IL w A n c l):n=l.length:=by
 obtain ⟨A',c',h1,-⟩:=h
 exact (Value.slice.inj h1).2.1
theorem IL.at {w:World} {A:Option Addr} {n c:Nat} {l:List Nat} (h:IL w A n c l) (h0:0<l.length):∃ b o,A=some ⟨b,o,none⟩∧∀ (j x:Nat),l[j]?=some x→w.cell? ⟨b,o+j,none⟩=some (.int .i64 (x:Int)):=by
 obtain ⟨A',c',h1,h2,h3,h4⟩:=h
 obtain ⟨b,o,h5,h6⟩:=h4 (by simpa using h0)
 obtain ⟨rfl,-,-⟩:=Value.slice.inj h1
 exact ⟨b,o,h5,fun j x hx=>h6 j _ (by simp [hx])⟩
def anyE (P q:Nat) (L:List (Nat × Nat)):Bool:=L.any fun e=>decide (e.1 * q≤P) && decide (P≤e.2 * q)
theorem anyE_next {P q k f t:Nat} {fs ts:List Nat} (hf:fs[k]?=some f) (ht:ts[k]?=some t):anyE P q ((fs.zip ts).take (k+1))=(anyE P q ((fs.zip ts).take k) || (decide (f * q≤P) && decide (P≤t * q))):=by
 have h:(fs.zip ts)[k]?=some (f,t):=by rw [List.getElem?_zip_eq_some];exact ⟨hf,ht⟩
 rw [List.take_add_one,h]
 simp [anyE]
theorem sign_le {x:Int}:(x.sign≤0)↔x≤0:=by
 rcases Int.lt_trichotomy x 0 with h|h|h
 ·rw [Int.sign_eq_neg_one_of_neg h];omega
 ·subst h;simp
 ·rw [Int.sign_eq_one_of_pos h];omega
theorem sign_low (f P q:Nat):decide (((f:Int) * (q:Int)+-(P:Int) * ((1:Nat):Int)).sign≤0)=decide (f * q≤P):=by
 rw [decide_eq_decide,sign_le]
 have:(f:Int) * (q:Int)=((f * q:Nat):Int):=by push_cast;rfl
 omega
theorem sign_high (t P q:Nat):decide (((P:Int) * ((1:Nat):Int)+-(t:Int) * (q:Int)).sign≤0)=decide (P≤t * q):=by
 rw [decide_eq_decide,sign_le,Int.neg_mul]
 have:(t:Int) * (q:Int)=((t * q:Nat):Int):=by push_cast;rfl
 omega
theorem RF.floor_lt {w:World} {b:Bool} {A A':Option Addr} {n c n' c':Nat} {p q k:Nat} (h:RF w b A n c A' n' c' p q k):p / q<2 ^ k:=by
 obtain ⟨p',q',h1,h2,h3,h4,h5,h6,h7⟩:=h.ex
 obtain ⟨e0,e33⟩:=nat_terms h1 h2 h3
 rw [← floor_terms h1 h2 e33]
 exact Nat.lt_of_le_of_lt (Nat.div_le_self _ _) h6
theorem RF.to {w:World} {b:Bool} {A A':Option Addr} {n c n' c':Nat} {p r:Int} {q s k:Nat} (h:RF w b A n c A' n' c' p q k) (hp:p=r) (hq:q=s):RF w b A n c A' n' c' r s k:=by subst hp;subst hq;exact h
theorem mod_terms (p q m:Nat):(p:Int) * ((1 * 1:Nat):Int)+(-(((p / (q * m):Nat):Int) * (m:Int))) * (q:Int)=((p % (q * m):Nat):Int):=by
 have h:=Nat.div_add_mod p (q * m)
 have h2:((q * m * (p / (q * m))+p % (q * m):Nat):Int)=(p:Int):=by rw [h]
 push_cast at h2 ⊢
 generalize ((p:Int) / ((q:Int) * (m:Int)))=x at *
 generalize ((p:Int) % ((q:Int) * (m:Int)))=y at *
 grind
def AtX (W:World) (B g:Nat) (p q k:Nat) (w:World):Prop:=∃ b A n c A' n' c',B≤g∧Blk w g 37 [.bool b,.slice A n c,.slice A' n' c']∧RF w b A n c A' n' c' p q k∧Below W.heap.size W w
def CondAt (W:World) (g:Nat) (cs:List Value) (p q k:Nat) (w:World):Prop:=Blk w W.heap.size 47 cs∧∃ b A n c A' n' c',Blk w g 37 [.bool b,.slice A n c,.slice A' n' c']∧RF w b A n c A' n' c' p q k∧Below W.heap.size W w
theorem cond_holds (w:World) (b nt:Bool) (A A' iA fA tA frA toA:Option Addr) (n c n' c' il ic fl fc tl tc k s m i v u f t l mod frn frc ton toc:Nat) (fs ts:List Nat) (h:OpR w b A n c A' n' c' iA il ic fA fl fc tA tl tc k s m i v u f t) (hm:63≤m) (hm2:m≤40000)
  (hfr:IL w frA frn frc fs) (hto:IL w toA ton toc ts) (hl:fs.length=ts.length) (hl2:fs.length≤1000000000) (hmod:mod<4294967296) (hf:∀ x ∈ fs,x<4294967296) (ht:∀ x ∈ ts,x<4294967296) :
  Calls Tryz.prog 57 #[.agg #[.int .u8 l,.int .i64 mod,.bool nt,.slice frA frn frc,.slice toA ton toc],.agg #[.bool b,.slice A n c,.slice A' n' c',.slice iA il ic,.int .i64 v,.int .i64 u,.slice fA fl fc,.slice tA tl tc]] w fun e w'=>e=.returned (.bool (condHolds (opVal k s i v u f t l).1 (opVal k s i v u f t l).2 mod nt (fs.zip ts)))∧Below w.heap.size w w':=by
 have HX:=qh h
 have HM:=qh hm
 have HM2:=qh hm2
 have HFR:=qh hfr
 have HTO:=qh hto
 have HL:=qh hl
 have HL2:=qh hl2
 have HMOD:=qh hmod
 have HFB:=qh hf
 have HTB:=qh ht
 clear h hm hm2 hfr hto hl hl2 hmod hf ht
 go_enter Tryz.func57,Tryz.ntmps57
 go_upto_region 1 with fail
 refine wp_letter (fun w1=>Blk w1 w.heap.size 47 [.int .u8 l,.int .i64 mod,.bool nt,.slice frA frn frc,.slice toA ton toc]∧Blk w1 (w.heap.size+1) 39 [.bool b,.slice A n c,.slice A' n' c',.slice iA il ic,.int .i64 v,.int .i64 u,.slice fA fl fc,.slice tA tl tc]∧Below w.heap.size w w1) ⟨((Blk.made _ 47 _ _ _ (by simp) rfl).alloc _),(Blk.made _ 39 _ _ _ (by simp) rfl),(((Below.refl _ _).alloc (by simp;try omega) _).alloc (by simp;try omega) _)⟩ ?_
 rintro w1 ⟨b0,b1,hb⟩
 obtain ⟨k00,k01,k02,k03,k04⟩:=b0.c5
 obtain ⟨k10,k11,k12,k13,k14,k15,k16,k17⟩:=b1.c8
 have HB:=qh hb
 have H0:=qh b0
 have H1:=qh b1
 have hz:=b1.lt
 clear hb b0 b1
 have HX1:=qh (HX.out.below HB.out ql)
 go_wp2_with fail
 refine (oper_Value _ b A A' iA fA tA n c n' c' il ic fl fc tl tc k s m i v u f t l HX1.out HM.out (by have:=HM2.out;omega)).mono ?_
 rintro e w2 ⟨⟨b2,A2,n2,c2,A3,n3,c3,ok,rfl,hr⟩,hb2⟩
 obtain ⟨p,hp⟩:∃ p,(opVal k s i v u f t l).1=p:=⟨_,rfl⟩
 obtain ⟨q,hq⟩:∃ q,(opVal k s i v u f t l).2=q:=⟨_,rfl⟩
 rw [hp,hq] at hr
 have HPV:=qh hp
 have HQV:=qh hq
 clear hp hq
 dsimp only
 go_upto_region 2 with fail
 generalize hg:w2.heap.size=g
 refine wp_letter (fun w3=>Blk w3 w.heap.size 47 [.int .u8 l,.int .i64 mod,.bool nt,.slice frA frn frc,.slice toA ton toc]∧Blk w3 g 37 [.bool b2,.slice A2 n2 c2,.slice A3 n3 c3]∧RF w3 b2 A2 n2 c2 A3 n3 c3 p q m∧Below w.heap.size w w3)
  ⟨(H0.out.below hb2 H0.out.lt).alloc _,Blk.made _ 37 _ _ _ hg.symm rfl,hr.below ((Below.refl _ _).alloc ql _) ql,(HB.out.trans (hb2.mono HB.out.size)).alloc (by have:=hb2.size;omega) _⟩ ?_
 have hgn:w.heap.size+1<g:=by have:=hb2.size;omega
 clear k00 k01 k02 k03 k04 k10 k11 k12 k13 k14 k15 k16 k17 hr hb2 hg HX1 H0 H1 HB hz HX
 rintro w3 ⟨b0,b5,r5,hb3⟩
 have C0:=qh b0
 have C5:=qh b5
 have R5:=qh r5
 have HB3:=qh hb3
 obtain ⟨k0,k1⟩:=b0.c2
 obtain ⟨k5,k6,k7⟩:=b5.c3
 clear b0 b5 r5 hb3
 go_upto_if 26 with fail
 go_cut [] (fun wx=>CondAt w g [.int .u8 l,.int .i64 mod,.bool nt,.slice frA frn frc,.slice toA ton toc] (if 0<mod then p % (q * mod) else p) q (2 * m+400) wx)
 case first =>
  by_cases hm0:0<mod
  ·have HM0:=qh hm0
   have hmI:(0:Int)<(mod:Int):=by omega
   clear hm0
   go_wp2_with fail
   refine (rat_Int _ mod (by have:=HMOD.out;omega)).mono ?_
   rintro e w4 ⟨⟨b4,A4,n4,c4,B4,m4,d4,rfl,r4⟩,hb4⟩
   dsimp only
   go_wp2_with fail
   refine (rat_Inv _ b4 A4 B4 n4 c4 m4 d4 mod 1 63 r4 (by omega) HM0.out).mono ?_
   rintro e w5 ⟨⟨b5,A5,n5,c5,B5,m5,d5,rfl,r5⟩,hb5⟩
   have hz5:w3.heap.size≤w5.heap.size:=Nat.le_trans hb4.size hb5.size
   have y5:=((C5.out.below hb4 C5.out.lt).below hb5 (Nat.lt_of_lt_of_le C5.out.lt hb4.size)).alloc (.cells #[.bool b5,.slice A5 n5 c5,.slice B5 m5 d5] 37)
   obtain ⟨t0,t1,t2⟩:=y5.c3
   dsimp only
   go_wp2_with fail
   have hba:Below w5.heap.size w5 (w5.alloc (.cells #[.bool b5,.slice A5 n5 c5,.slice B5 m5 d5] 37)):=(Below.refl _ _).alloc ql _
   have h35:Below w3.heap.size w3 w5:=hb4.trans (hb5.mono hb4.size)
   have h36:=qh (h35.trans (hba.mono h35.size))
   have r6:=r5.below hba ql
   refine (rat_Mul _ b2 b5 A2 A3 A5 B5 n2 c2 n3 c3 n5 c5 m5 d5 p ((1:Nat):Int) q mod m 63 (R5.out.below h36.out ql) r6 (by have:=HM2.out;omega) (by omega)).mono ?_
   rintro e w6 ⟨⟨b6,A6,n6,c6,B6,m6,d6,rfl,r7⟩,hb6⟩
   have R7:=qh (r7.to (r:=(p:Int)) (s:=q * mod) (by simp) rfl)
   have FL:=qh (RF.floor_lt (p:=p) R7.out)
   clear t0 t1 t2 r7
   dsimp only
   go_wp2_with fail
   refine (rat_Floor _ b6 A6 B6 n6 c6 m6 d6 p (q * mod) (m+63) R7.out (by have:=HM2.out;omega)).mono ?_
   rintro e w7 ⟨⟨b7,A7,n7,c7,rfl,r7⟩,hb7⟩
   dsimp only
   go_wp2_with fail
   refine (natOf _ 1 (by omega)).mono ?_
   rintro e w8 ⟨⟨A8,n8,c8,rfl,r8⟩,hb8⟩
   dsimp only
   go_wp2_with fail
   refine (rat_Of _ b7 A7 A8 n7 c7 n8 c8 ((p / (q * mod):Nat):Int) 1 (m+63) (r7.below hb8 ql) r8 (by omega) (by rw [Int.natAbs_natCast];exact FL.out) (Nat.one_lt_two_pow (by omega)) (by have:=HM2.out;omega)).mono ?_
   rintro e w9 ⟨⟨b9,A9,n9,c9,B9,m9,d9,rfl,r9⟩,hb9⟩
   dsimp only
   go_wp2_with fail
   generalize hg9:w9.heap.size=g9
   have h39:Below w3.heap.size w3 w9:=((((h36.out.trans (hb6.mono h36.out.size)).trans (hb7.mono (Nat.le_trans h36.out.size hb6.size))).trans (hb8.mono (Nat.le_trans h36.out.size (Nat.le_trans hb6.size hb7.size)))).trans (hb9.mono (Nat.le_trans h36.out.size (Nat.le_trans hb6.size (Nat.le_trans hb7.size hb8.size)))))
   have hbz:Below w9.heap.size w9 (w9.alloc (.cells #[.bool b9,.slice A9 n9 c9,.slice B9 m9 d9] 37)):=(Below.refl _ _).alloc ql _
   have h3z:=h39.trans (hbz.mono h39.size)
   refine wp_letter (fun wa=>Blk wa w.heap.size 47 [.int .u8 l,.int .i64 mod,.bool nt,.slice frA frn frc,.slice toA ton toc]∧Blk wa g 37 [.bool b2,.slice A2 n2 c2,.slice A3 n3 c3]∧Blk wa g9 37 [.bool b9,.slice A9 n9 c9,.slice B9 m9 d9]∧RF wa b2 A2 n2 c2 A3 n3 c3 p q m∧RF wa b9 A9 n9 c9 B9 m9 d9 ((p / (q * mod):Nat):Int) 1 (m+63)∧Below w.heap.size w wa)
    ⟨C0.out.below h3z C0.out.lt,C5.out.below h3z C5.out.lt,Blk.made _ 37 _ _ _ hg9.symm rfl,R5.out.below h3z ql,r9.below hbz ql,HB3.out.trans (h3z.mono HB3.out.size)⟩ ?_
   have hg9':g<g9:=by have:=C5.out.lt;have:=h39.size;omega
   clear hbz h3z h39 hg9 r9 hb9 r8 hb8 r7 hb7 hb6 R7 FL r6 h36 h35 hba y5 hz5 r5 hb5 r4 hb4 k0 k1 k5 k6 k7 C0 C5 R5 HB3
   rintro wa ⟨b0,bg,bg9,ra,r9,hba⟩
   have G0:=qh b0
   have G5:=qh bg
   have G9:=qh bg9
   have RA:=qh ra
   have R9:=qh r9
   have HBA:=qh hba
   have hza:=bg9.lt
   clear b0 bg bg9 ra r9 hba
   have HF:Hid (∀ w',Below wa.heap.size wa w'→w'.cell? ⟨w.heap.size,1,none⟩=some (.int .i64 mod)∧w'.cell? ⟨g,0,none⟩=some (.bool b2)∧w'.cell? ⟨g,1,none⟩=some (.slice A2 n2 c2)∧w'.cell? ⟨g,2,none⟩=some (.slice A3 n3 c3)∧w'.cell? ⟨g9,0,none⟩=some (.bool b9)∧w'.cell? ⟨g9,1,none⟩=some (.slice A9 n9 c9)∧w'.cell? ⟨g9,2,none⟩=some (.slice B9 m9 d9)∧w'.frozen? ⟨g,0,none⟩=false∧w'.frozen? ⟨g,1,none⟩=false∧w'.frozen? ⟨g,2,none⟩=false):=fun w' h=>⟨(h.cell (by simp;omega)).trans (G0.out.cell 1),(h.cell (by simp;omega)).trans (G5.out.cell 0),(h.cell (by simp;omega)).trans (G5.out.cell 1),(h.cell (by simp;omega)).trans (G5.out.cell 2),(h.cell (by simp;omega)).trans (G9.out.cell 0),(h.cell (by simp;omega)).trans (G9.out.cell 1),(h.cell (by simp;omega)).trans (G9.out.cell 2),(h.frozen (by simp;omega)).trans (G5.out.frozen 0),(h.frozen (by simp;omega)).trans (G5.out.frozen 1),(h.frozen (by simp;omega)).trans (G5.out.frozen 2)⟩
   obtain ⟨k1,t50,t51,t52,t90,t91,t92,x0,x1,x2⟩:=HF.out wa (Below.refl _ _)
   clear k1 t50 t51 t52 t90 t91 t92 x0 x1 x2
   refine wp_region_but (fun w'=>Below wa.heap.size wa w') (by kernel_rfl) (by kernel_rfl) (Below.refl _ _).drew (fun hHeld=>?_)
   simp only [initL,lastL]
   refine takeY (i:=0) (v:=?v85) ?hy85 ?rest85
   case hy85=>(intro wz hSz;(have hfz:=HF.out wz hSz);go_split_ands;(first|(go_simp;done)|(go_simp;with_reducible rfl)))
   try simp only [Act.put,qqqT,qqq0,qqq1]
   refine takeY (i:=1) (v:=?v86) ?hy86 ?rest86
   case hy86=>(intro wz hSz;(have hfz:=HF.out wz hSz);go_split_ands;(first|(go_simp;done)|(go_simp;with_reducible rfl)))
   try simp only [Act.put,qqqT,qqq0,qqq1]
   refine takeY (i:=2) (v:=?v87) ?hy87 ?rest87
   case hy87=>(intro wz hSz;(have hfz:=HF.out wz hSz);go_split_ands;(first|(go_simp;done)|(go_simp;with_reducible rfl)))
   try simp only [Act.put,qqqT,qqq0,qqq1]
   refine takeY (i:=3) (v:=?v88) ?hy88 ?rest88
   case hy88=>(intro wz hSz;(have hfz:=HF.out wz hSz);go_split_ands;(first|(go_simp;done)|(go_simp;with_reducible rfl)))
   try simp only [Act.put,qqqT,qqq0,qqq1]
   refine wpAnyH_ready (rs:=[4]) (by kernel_rfl) (by simp) ?_
   refine consL rfl (fun K hK=>?_) AllReadyH.nil
   go_simp
   refine (rat_Int _ mod (by have:=HMOD.out;omega)).mono ?_
   rintro e wb ⟨⟨bb,Ab,nb,cb,Bb,mb,db,rfl,rb⟩,hbb⟩
   have Hb:=qh (below_on (Below.refl wa.heap.size wa).drew ql hbb)
   have RB:=qh rb
   clear rb hbb
   dsimp only
   refine hK.out _ _ Hb.out (fun hHeld=>?_)
   clear hK K
   try simp only [Act.put,qqqT,qqq0,qqq1]
   refine wpAnyH_ready (rs:=[5]) (by kernel_rfl) (by simp) ?_
   refine consL rfl (fun K hK=>?_) AllReadyH.nil
   go_simp
   refine (rat_Mul _ b9 bb A9 B9 Ab Bb n9 c9 m9 d9 nb cb mb db ((p / (q * mod):Nat):Int) (mod:Int) 1 1 (m+63) 63 (R9.out.below Hb.out ql) RB.out (by have:=HM2.out;omega) (by omega)).mono ?_
   rintro e wc ⟨⟨bc,Ac,nc,cc,Bc,mc,dc,rfl,rc⟩,hbc⟩
   have Hc:=qh (below_on Hb.out ql hbc)
   have RC:=qh rc
   clear rc hbc
   dsimp only
   refine hK.out _ _ Hc.out (fun hHeld=>?_)
   clear hK K
   try simp only [Act.put,qqqT,qqq0,qqq1]
   refine wpAnyH_ready (rs:=[6]) (by kernel_rfl) (by simp) ?_
   refine consL rfl (fun K hK=>?_) AllReadyH.nil
   go_simp
   refine (rat_Neg _ bc Ac Bc nc cc mc dc _ _ _ RC.out (by have:=HM2.out;omega)).mono ?_
   rintro e wd ⟨⟨bd,Ad,nd,cd,Bd,md,dd,rfl,rd⟩,hbd⟩
   have Hd:=qh (below_on Hc.out ql hbd)
   have RD:=qh rd
   clear rd hbd
   dsimp only
   refine hK.out _ _ Hd.out (fun hHeld=>?_)
   clear hK K
   try simp only [Act.put,qqqT,qqq0,qqq1]
   refine wpAnyH_ready (rs:=[7]) (by kernel_rfl) (by simp) ?_
   refine consL rfl (fun K hK=>?_) AllReadyH.nil
   go_simp
   refine (rat_Add _ b2 bd A2 A3 Ad Bd n2 c2 n3 c3 nd cd md dd p _ q _ m _ (RA.out.below Hd.out ql) RD.out (by have:=HM2.out;omega) (by have:=HM2.out;omega)).mono ?_
   rintro e we ⟨⟨be,Ae,ne,ce,Be,me,de,rfl,re⟩,hbe⟩
   have He:=qh (below_on Hd.out ql hbe)
   have RE:=qh re
   clear re hbe
   dsimp only
   refine hK.out _ _ He.out (fun hHeld=>?_)
   clear hK K
   try simp only [Act.put,qqqT,qqq0,qqq1]
   refine wpAnyH_done (by kernel_rfl) ?_ _
   unfold TailQ
   obtain ⟨k1,t50,t51,t52,t90,t91,t92,x0,x1,x2⟩:=HF.out _ He.out
   have y0:=G0.out.below He.out G0.out.lt
   have y5:=G5.out.below He.out G5.out.lt
   have hd:Hold we g 37 3 we:=Hold.start y5 (by simp [No32])
   have hf:=hd.fill3 (.bool be) (.slice Ae ne ce) (.slice Be me de)
   have T:∀ {A0:Option Addr} {m0 c0 k0:Nat},SN we A0 m0 c0 k0→SN (((we.setCell ⟨g,0,none⟩ (.bool be)).setCell ⟨g,1,none⟩ (.slice Ae ne ce)).setCell ⟨g,2,none⟩ (.slice Be me de)) A0 m0 c0 k0:=fun hs=>((hs.hset hd 0 (.bool be)).hset (hd.set 0 (.bool be) (by simp)) 1 (.slice Ae ne ce)).hset ((hd.set 0 (.bool be) (by simp)).set 1 (.slice Ae ne ce) (by simp)) 2 (.slice Be me de)
   have hw:=(((hd.set 0 (.bool be) (by simp)).set 1 (.slice Ae ne ce) (by simp)).set 2 (.slice Be me de) (by simp)).below (Nat.le_of_lt (Nat.lt_trans (Nat.lt_succ_self _) hgn))
   have y1:=((y0.far ⟨g,0,none⟩ (.bool be) (by simp;omega)).far ⟨g,1,none⟩ (.slice Ae ne ce) (by simp;omega)).far ⟨g,2,none⟩ (.slice Be me de) (by simp;omega)
   have hr:=((RE.out.to (s:=q) (mod_terms p q mod) (by simp)).map T).mono (m:=2 * m+400) (by omega)
   go_wp2_with fail
   go_meet
   rw [if_pos HM0.out]
   exact ⟨y1,_,_,_,_,_,_,_,hf,hr,(HBA.out.trans (He.out.mono HBA.out.size)).trans hw⟩
  ·have hmI:¬ (0:Int)<(mod:Int):=by omega
   have HM0:=qh hm0
   clear hm0
   go_wp2_with fail
   go_meet
   rw [if_neg HM0.out]
   exact ⟨C0.out,_,_,_,_,_,_,_,C5.out,R5.out.mono (by omega),HB3.out⟩
 case rest =>
  obtain ⟨P,hP⟩:∃ P:Nat,P=(if 0<mod then p % (q * mod) else p):=⟨_,rfl⟩
  have HP:=qh hP
  rw [← hP] at hcut
  clear hP C0 C5 R5 HB3 k0 k1 k5 k6 k7
  obtain ⟨d0,b3,A3',n3',c3',B3,m3,d3,d5,r3,hb3⟩:=hcut
  have D0:=qh d0
  have D5:=qh d5
  have R3:=qh r3
  have HB3:=qh hb3
  obtain ⟨k5,k6,k7⟩:=d5.c3
  clear d0 d5 r3 hb3
  go_step
  go_wp2_with fail
  refine (rat_Floor _ b3 A3' B3 n3' c3' m3 d3 P q (2 * m+400) R3.out (by have:=HM2.out;omega)).mono ?_
  rintro e w4 ⟨⟨b4,A4,n4,c4,rfl,r4⟩,hb4⟩
  dsimp only
  go_upto_region 7 with fail
  generalize hg11:w4.heap.size=g11
  have hx4:g<w4.heap.size:=Nat.lt_of_lt_of_le D5.out.lt hb4.size
  refine wp_letter (fun w5=>Blk w5 w.heap.size 47 [.int .u8 l,.int .i64 mod,.bool nt,.slice frA frn frc,.slice toA ton toc]∧Blk w5 g 37 [.bool b3,.slice A3' n3' c3',.slice B3 m3 d3]∧Blk w5 g11 35 [.bool b4,.slice A4 n4 c4]∧RF w5 b3 A3' n3' c3' B3 m3 d3 P q (2 * m+400)∧RZ w5 b4 A4 n4 c4 ((P / q:Nat):Int)∧Below w.heap.size w w5)
   ⟨(D0.out.below hb4 D0.out.lt).alloc _,(D5.out.below hb4 D5.out.lt).alloc _,Blk.made _ 35 _ _ _ hg11.symm rfl,(R3.out.below hb4 ql).below ((Below.refl _ _).alloc ql _) ql,r4.below ((Below.refl _ _).alloc ql _) ql,(HB3.out.trans (hb4.mono HB3.out.size)).alloc (Nat.le_trans HB3.out.size hb4.size) _⟩ ?_
  have hgg:g<g11:=by omega
  clear k5 k6 k7 r4 hb4 hg11 D0 D5 R3 HB3 hx4
  rintro w5 ⟨d0,d5,d11,r3,r4,hb5⟩
  have D0:=qh d0
  have D5:=qh d5
  have D11:=qh d11
  have R3:=qh r3
  have R4:=qh r4
  have HB5:=qh hb5
  have FL:Hid (P / q<2 ^ (2 * m+400)):=RF.floor_lt r3
  have hz5:=d11.lt
  clear d0 d5 d11 r3 r4 hb5
  have HF:Hid (∀ w',Below w5.heap.size w5 w'→w'.cell? ⟨g11,0,none⟩=some (.bool b4)∧w'.cell? ⟨g11,1,none⟩=some (.slice A4 n4 c4)):=fun w' h=>⟨(h.cell (by simp;omega)).trans (D11.out.cell 0),(h.cell (by simp;omega)).trans (D11.out.cell 1)⟩
  go_cut [12] (fun s12 wx=>∃ g12,s12=.pointer (some ⟨g12,0,none⟩)∧TookQ w5 g12 ((P / q:Nat):Int) 1 (2 * m+400) wx)
  case first =>
   refine wp_region_held_drew (S:=fun w'=>Below w5.heap.size w5 w') (by kernel_rfl) (Below.refl _ _).drew (fun hHeld=>?_)
   refine wpAnyH_letter (fun w'=>Below w5.heap.size w5 w') hHeld ?_
   rintro w6 hb6
   have HB6:=qh hb6
   clear hb6 hHeld
   refine takeY (i:=0) (v:=?v1) ?hy1 ?rest1
   case hy1=>(intro wz hSz;(have hfz:=HF.out wz hSz);go_split_ands;(first|(go_simp;done)|(go_simp;with_reducible rfl)))
   try simp only [Act.put,qqqT,qqq0,qqq1]
   refine wpAnyH_ready (rs:=[1,6]) (by kernel_rfl) (by simp) ?_
   refine consL rfl (fun K hK=>?_) ?_
   ·skip
    go_simp
    refine (natOf _ 1 (by omega)).mono ?_
    rintro e w102 ⟨⟨A2,n2,c2,rfl,r⟩,hb⟩
    have HB2:=qh (below_on HB6.out ql hb)
    have RN2:=qh r
    clear r hb
    dsimp only
    try clear hHeld
    refine hK.out _ _ (HB2.out) (fun hHeld=>?_)
    clear hK K
    try simp only [Act.put,qqqT,qqq0,qqq1]
    refine wpAnyH_ready (rs:=[2,6]) (by kernel_rfl) (by simp) ?_
    refine consL rfl (fun K hK=>?_) ?_
    ·skip
     go_simp
     refine (rat_Of _ b4 A4 A2 n4 c4 n2 c2 ((P / q:Nat):Int) 1 (2 * m+400) (R4.out.below HB2.out ql) RN2.out (by omega) (by rw [Int.natAbs_natCast];exact FL.out) (Nat.one_lt_two_pow (by omega)) (by have:=HM2.out;omega)).mono ?_
     rintro e w103 ⟨⟨b3,A3,n3,c3,B3,m3,d3,rfl,r⟩,hb⟩
     have HB3:=qh (below_on HB2.out ql hb)
     have RQ3:=qh r
     clear r hb
     dsimp only
     try clear hHeld
     refine hK.out _ _ (HB3.out) (fun hHeld=>?_)
     clear hK K
     try simp only [Act.put,qqqT,qqq0,qqq1]
     refine takeY (i:=3) (v:=?v4) ?hy4 ?rest4
     case hy4=>(intro wz hSz;(have hfz:=HF.out wz hSz);go_split_ands;(first|(go_simp;done)|(go_simp;with_reducible rfl)))
     try simp only [Act.put,qqqT,qqq0,qqq1]
     refine takeY (i:=4) (v:=?v5) ?hy5 ?rest5
     case hy5=>(intro wz hSz;(have hfz:=HF.out wz hSz);go_split_ands;(first|(go_simp;done)|(go_simp;with_reducible rfl)))
     try simp only [Act.put,qqqT,qqq0,qqq1]
     refine takeY (i:=5) (v:=?v6) ?hy6 ?rest6
     case hy6=>(intro wz hSz;(have hfz:=HF.out wz hSz);go_split_ands;(first|(go_simp;done)|(go_simp;with_reducible rfl)))
     try simp only [Act.put,qqqT,qqq0,qqq1]
     refine wpAnyH_ready (rs:=[6]) (by kernel_rfl) (by simp) ?_
     refine consL rfl (fun K hK=>?_) AllReadyH.nil
     go_simp
     try clear hHeld
     refine hK.out _ _ (HB3.out.alloc HB3.out.size _) (fun hHeld=>?_)
     clear hK K
     try simp only [Act.put,qqqT,qqq0,qqq1]
     generalize hg:w103.heap.size=g7
     have hge7:w5.heap.size≤g7:=by have:=HB3.out.size;omega
     refine wpAnyH_letter (fun wz=>Blk wz g7 37 [.bool false,.slice none 0 0,.slice none 0 0]∧Below w5.heap.size w5 wz∧RF wz b3 A3 n3 c3 B3 m3 d3 ((P / q:Nat):Int) 1 (2 * m+400)) ⟨Blk.made _ 37 _ _ _ hg.symm rfl,HB3.out.alloc HB3.out.size _,RQ3.out.below ((Below.refl w103.heap.size w103).alloc ql (.cells #[.bool false,.slice none 0 0,.slice none 0 0] 37)) ql⟩ ?_
     clear hg
     rintro w107 ⟨x0,x1,x2⟩
     have D7:=qh x0
     have HB7:=qh x1
     have RQ7:=qh x2
     clear x0 x1 x2
     refine wpAnyH_ready (rs:=[7]) (by kernel_rfl) (by simp) ?_
     refine consL rfl (fun K hK=>?_) AllReadyH.nil
     obtain ⟨k0,k1,k2,f0,f1,f2⟩:=D7.out.cf3
     go_simp
     have hd:Hold w107 g7 37 3 w107:=Hold.start D7.out (by simp [No32])
     have hf:=qh (hd.fill3 (.bool b3) (.slice A3 n3 c3) (.slice B3 m3 d3))
     have T:∀ {A0:Option Addr} {m0 c0 k0:Nat},SN w107 A0 m0 c0 k0→SN (((w107.setCell ⟨g7,0,none⟩ (.bool b3)).setCell ⟨g7,1,none⟩ (.slice A3 n3 c3)).setCell ⟨g7,2,none⟩ (.slice B3 m3 d3)) A0 m0 c0 k0:=fun hs=>((hs.hset hd 0 (.bool b3)).hset (hd.set 0 (.bool b3) (by simp)) 1 (.slice A3 n3 c3)).hset ((hd.set 0 (.bool b3) (by simp)).set 1 (.slice A3 n3 c3) (by simp)) 2 (.slice B3 m3 d3)
     have RM:=qh (RQ7.out.map T)
     clear T hd
     clear k0 k1 k2 f0 f1 f2
     try clear hHeld
     refine hK.out _ _ (below_set (below_set (below_set HB7.out g7 0 hge7 _) g7 1 hge7 _) g7 2 hge7 _) (fun hHeld=>?_)
     clear hK K
     try simp only [Act.put,qqqT,qqq0,qqq1]
     refine wpAnyH_letter (fun wz=>Blk wz g7 37 [.bool b3,.slice A3 n3 c3,.slice B3 m3 d3]∧RF wz b3 A3 n3 c3 B3 m3 d3 ((P / q:Nat):Int) 1 (2 * m+400)∧Below w5.heap.size w5 wz) ⟨hf.out,RM.out,hHeld⟩ ?_
     clear hf RM hHeld
     rintro w108 ⟨x0,x1,x2⟩
     have D8:=qh x0
     have RQ8:=qh x1
     have HB8:=qh x2
     clear x0 x1 x2
     refine takeY (i:=8) (v:=?v9) ?hy9 ?rest9
     case hy9=>(intro wz hSz;(have hfz:=HF.out wz hSz);go_split_ands;(first|(go_simp;done)|(go_simp;with_reducible rfl)))
     try simp only [Act.put,qqqT,qqq0,qqq1]
     refine wpAnyH_done (by kernel_rfl) ?_ _
     go_wp2_with fail
     go_meet
     exact ⟨g7,rfl,_,_,_,_,_,_,_,hge7,D8.out,RQ8.out,HB8.out⟩
    refine consL rfl (fun K hK=>?_) AllReadyH.nil
    go_simp
    try clear hHeld
    refine hK.out _ _ (HB2.out.alloc HB2.out.size _) (fun hHeld=>?_)
    clear hK K
    try simp only [Act.put,qqqT,qqq0,qqq1]
    generalize hg:w102.heap.size=g10
    have hge10:w5.heap.size≤g10:=by have:=HB2.out.size;omega
    refine wpAnyH_letter (fun wz=>Blk wz g10 37 [.bool false,.slice none 0 0,.slice none 0 0]∧Below w5.heap.size w5 wz∧SN wz A2 n2 c2 1) ⟨Blk.made _ 37 _ _ _ hg.symm rfl,HB2.out.alloc HB2.out.size _,RN2.out.below ((Below.refl w102.heap.size w102).alloc ql (.cells #[.bool false,.slice none 0 0,.slice none 0 0] 37)) ql⟩ ?_
    clear hg
    rintro w110 ⟨x0,x1,x2⟩
    have D10:=qh x0
    have HB10:=qh x1
    have RN10:=qh x2
    clear x0 x1 x2
    refine wpAnyH_ready (rs:=[2]) (by kernel_rfl) (by simp) ?_
    refine consL rfl (fun K hK=>?_) AllReadyH.nil
    go_simp
    refine (rat_Of _ b4 A4 A2 n4 c4 n2 c2 ((P / q:Nat):Int) 1 (2 * m+400) (R4.out.below HB10.out ql) RN10.out (by omega) (by rw [Int.natAbs_natCast];exact FL.out) (Nat.one_lt_two_pow (by omega)) (by have:=HM2.out;omega)).mono ?_
    rintro e w111 ⟨⟨b11,A11,n11,c11,B11,m11,d11,rfl,r⟩,hb⟩
    have HB11:=qh (below_on HB10.out ql hb)
    have RQ11:=qh r
    have D11:=qh (D10.out.below hb D10.out.lt)
    clear r hb
    dsimp only
    try clear hHeld
    refine hK.out _ _ (HB11.out) (fun hHeld=>?_)
    clear hK K
    try simp only [Act.put,qqqT,qqq0,qqq1]
    refine takeY (i:=3) (v:=?v12) ?hy12 ?rest12
    case hy12=>(intro wz hSz;(have hfz:=HF.out wz hSz);go_split_ands;(first|(go_simp;done)|(go_simp;with_reducible rfl)))
    try simp only [Act.put,qqqT,qqq0,qqq1]
    refine takeY (i:=4) (v:=?v13) ?hy13 ?rest13
    case hy13=>(intro wz hSz;(have hfz:=HF.out wz hSz);go_split_ands;(first|(go_simp;done)|(go_simp;with_reducible rfl)))
    try simp only [Act.put,qqqT,qqq0,qqq1]
    refine takeY (i:=5) (v:=?v14) ?hy14 ?rest14
    case hy14=>(intro wz hSz;(have hfz:=HF.out wz hSz);go_split_ands;(first|(go_simp;done)|(go_simp;with_reducible rfl)))
    try simp only [Act.put,qqqT,qqq0,qqq1]
    refine wpAnyH_ready (rs:=[7]) (by kernel_rfl) (by simp) ?_
    refine consL rfl (fun K hK=>?_) AllReadyH.nil
    obtain ⟨k0,k1,k2,f0,f1,f2⟩:=D11.out.cf3
    go_simp
    have hd:Hold w111 g10 37 3 w111:=Hold.start D11.out (by simp [No32])
    have hf:=qh (hd.fill3 (.bool b11) (.slice A11 n11 c11) (.slice B11 m11 d11))
    have T:∀ {A0:Option Addr} {m0 c0 k0:Nat},SN w111 A0 m0 c0 k0→SN (((w111.setCell ⟨g10,0,none⟩ (.bool b11)).setCell ⟨g10,1,none⟩ (.slice A11 n11 c11)).setCell ⟨g10,2,none⟩ (.slice B11 m11 d11)) A0 m0 c0 k0:=fun hs=>((hs.hset hd 0 (.bool b11)).hset (hd.set 0 (.bool b11) (by simp)) 1 (.slice A11 n11 c11)).hset ((hd.set 0 (.bool b11) (by simp)).set 1 (.slice A11 n11 c11) (by simp)) 2 (.slice B11 m11 d11)
    have RM:=qh (RQ11.out.map T)
    clear T hd
    clear k0 k1 k2 f0 f1 f2
    try clear hHeld
    refine hK.out _ _ (below_set (below_set (below_set HB11.out g10 0 hge10 _) g10 1 hge10 _) g10 2 hge10 _) (fun hHeld=>?_)
    clear hK K
    try simp only [Act.put,qqqT,qqq0,qqq1]
    refine wpAnyH_letter (fun wz=>Blk wz g10 37 [.bool b11,.slice A11 n11 c11,.slice B11 m11 d11]∧RF wz b11 A11 n11 c11 B11 m11 d11 ((P / q:Nat):Int) 1 (2 * m+400)∧Below w5.heap.size w5 wz) ⟨hf.out,RM.out,hHeld⟩ ?_
    clear hf RM hHeld
    rintro w115 ⟨x0,x1,x2⟩
    have D15:=qh x0
    have RQ15:=qh x1
    have HB15:=qh x2
    clear x0 x1 x2
    refine takeY (i:=8) (v:=?v16) ?hy16 ?rest16
    case hy16=>(intro wz hSz;(have hfz:=HF.out wz hSz);go_split_ands;(first|(go_simp;done)|(go_simp;with_reducible rfl)))
    try simp only [Act.put,qqqT,qqq0,qqq1]
    refine wpAnyH_done (by kernel_rfl) ?_ _
    go_wp2_with fail
    go_meet
    exact ⟨g10,rfl,_,_,_,_,_,_,_,hge10,D15.out,RQ15.out,HB15.out⟩
   refine consL rfl (fun K hK=>?_) AllReadyH.nil
   go_simp
   try clear hHeld
   refine hK.out _ _ (HB6.out.alloc HB6.out.size _) (fun hHeld=>?_)
   clear hK K
   try simp only [Act.put,qqqT,qqq0,qqq1]
   generalize hg:w6.heap.size=g17
   have hge17:w5.heap.size≤g17:=by have:=HB6.out.size;omega
   refine wpAnyH_letter (fun wz=>Blk wz g17 37 [.bool false,.slice none 0 0,.slice none 0 0]∧Below w5.heap.size w5 wz) ⟨Blk.made _ 37 _ _ _ hg.symm rfl,HB6.out.alloc HB6.out.size _⟩ ?_
   clear hg
   rintro w117 ⟨x0,x1⟩
   have D17:=qh x0
   have HB17:=qh x1
   clear x0 x1
   refine wpAnyH_ready (rs:=[1]) (by kernel_rfl) (by simp) ?_
   refine consL rfl (fun K hK=>?_) AllReadyH.nil
   go_simp
   refine (natOf _ 1 (by omega)).mono ?_
   rintro e w118 ⟨⟨A18,n18,c18,rfl,r⟩,hb⟩
   have HB18:=qh (below_on HB17.out ql hb)
   have RN18:=qh r
   have D18:=qh (D17.out.below hb D17.out.lt)
   clear r hb
   dsimp only
   try clear hHeld
   refine hK.out _ _ (HB18.out) (fun hHeld=>?_)
   clear hK K
   try simp only [Act.put,qqqT,qqq0,qqq1]
   refine wpAnyH_ready (rs:=[2]) (by kernel_rfl) (by simp) ?_
   refine consL rfl (fun K hK=>?_) AllReadyH.nil
   go_simp
   refine (rat_Of _ b4 A4 A18 n4 c4 n18 c18 ((P / q:Nat):Int) 1 (2 * m+400) (R4.out.below HB18.out ql) RN18.out (by omega) (by rw [Int.natAbs_natCast];exact FL.out) (Nat.one_lt_two_pow (by omega)) (by have:=HM2.out;omega)).mono ?_
   rintro e w119 ⟨⟨b19,A19,n19,c19,B19,m19,d19,rfl,r⟩,hb⟩
   have HB19:=qh (below_on HB18.out ql hb)
   have RQ19:=qh r
   have D19:=qh (D18.out.below hb D18.out.lt)
   clear r hb
   dsimp only
   try clear hHeld
   refine hK.out _ _ (HB19.out) (fun hHeld=>?_)
   clear hK K
   try simp only [Act.put,qqqT,qqq0,qqq1]
   refine takeY (i:=3) (v:=?v20) ?hy20 ?rest20
   case hy20=>(intro wz hSz;(have hfz:=HF.out wz hSz);go_split_ands;(first|(go_simp;done)|(go_simp;with_reducible rfl)))
   try simp only [Act.put,qqqT,qqq0,qqq1]
   refine takeY (i:=4) (v:=?v21) ?hy21 ?rest21
   case hy21=>(intro wz hSz;(have hfz:=HF.out wz hSz);go_split_ands;(first|(go_simp;done)|(go_simp;with_reducible rfl)))
   try simp only [Act.put,qqqT,qqq0,qqq1]
   refine takeY (i:=5) (v:=?v22) ?hy22 ?rest22
   case hy22=>(intro wz hSz;(have hfz:=HF.out wz hSz);go_split_ands;(first|(go_simp;done)|(go_simp;with_reducible rfl)))
   try simp only [Act.put,qqqT,qqq0,qqq1]
   refine wpAnyH_ready (rs:=[7]) (by kernel_rfl) (by simp) ?_
   refine consL rfl (fun K hK=>?_) AllReadyH.nil
   obtain ⟨k0,k1,k2,f0,f1,f2⟩:=D19.out.cf3
   go_simp
   have hd:Hold w119 g17 37 3 w119:=Hold.start D19.out (by simp [No32])
   have hf:=qh (hd.fill3 (.bool b19) (.slice A19 n19 c19) (.slice B19 m19 d19))
   have T:∀ {A0:Option Addr} {m0 c0 k0:Nat},SN w119 A0 m0 c0 k0→SN (((w119.setCell ⟨g17,0,none⟩ (.bool b19)).setCell ⟨g17,1,none⟩ (.slice A19 n19 c19)).setCell ⟨g17,2,none⟩ (.slice B19 m19 d19)) A0 m0 c0 k0:=fun hs=>((hs.hset hd 0 (.bool b19)).hset (hd.set 0 (.bool b19) (by simp)) 1 (.slice A19 n19 c19)).hset ((hd.set 0 (.bool b19) (by simp)).set 1 (.slice A19 n19 c19) (by simp)) 2 (.slice B19 m19 d19)
   have RM:=qh (RQ19.out.map T)
   clear T hd
   clear k0 k1 k2 f0 f1 f2
   try clear hHeld
   refine hK.out _ _ (below_set (below_set (below_set HB19.out g17 0 hge17 _) g17 1 hge17 _) g17 2 hge17 _) (fun hHeld=>?_)
   clear hK K
   try simp only [Act.put,qqqT,qqq0,qqq1]
   refine wpAnyH_letter (fun wz=>Blk wz g17 37 [.bool b19,.slice A19 n19 c19,.slice B19 m19 d19]∧RF wz b19 A19 n19 c19 B19 m19 d19 ((P / q:Nat):Int) 1 (2 * m+400)∧Below w5.heap.size w5 wz) ⟨hf.out,RM.out,hHeld⟩ ?_
   clear hf RM hHeld
   rintro w123 ⟨x0,x1,x2⟩
   have D23:=qh x0
   have RQ23:=qh x1
   have HB23:=qh x2
   clear x0 x1 x2
   refine takeY (i:=8) (v:=?v24) ?hy24 ?rest24
   case hy24=>(intro wz hSz;(have hfz:=HF.out wz hSz);go_split_ands;(first|(go_simp;done)|(go_simp;with_reducible rfl)))
   try simp only [Act.put,qqqT,qqq0,qqq1]
   refine wpAnyH_done (by kernel_rfl) ?_ _
   go_wp2_with fail
   go_meet
   exact ⟨g17,rfl,_,_,_,_,_,_,_,hge17,D23.out,RQ23.out,HB23.out⟩
  case rest =>
   obtain ⟨g12,rfl,b7,A7,n7,c7,B7,m7,d7,hg12,d12,r7,hb7⟩:=hcut
   have D12:=qh d12
   have R7:=qh r7
   have HB7:=qh hb7
   have E0:=qh (D0.out.below hb7 D0.out.lt)
   have E5:=qh (D5.out.below hb7 D5.out.lt)
   have R8:=qh (R3.out.below hb7 ql)
   have HB8:=qh (HB5.out.trans (hb7.mono HB5.out.size))
   clear d12 r7 hb7 D0 D5 D11 R3 R4 HB5 HF HB7 FL
   obtain ⟨k5,k6,k7⟩:=E5.out.c3
   obtain ⟨j0,j1,j2⟩:=D12.out.c3
   have hq0:0<q:=by obtain ⟨p',q',h1,-⟩:=R8.out.ex;exact h1
   have HQ0:=qh hq0
   clear hq0
   go_step
   go_wp2_with fail
   refine (rat_Cmp _ b7 b3 A7 B7 A3' B3 n7 c7 m7 d7 n3' c3' m3 d3 ((P / q:Nat):Int) (P:Int) 1 q (2 * m+400) (2 * m+400) R7.out R8.out (by have:=HM2.out;omega) (by have:=HM2.out;omega)).mono ?_
   rintro e w8 ⟨rfl,hb8⟩
   have hsg:(((((P / q:Nat):Int) * (q:Int)+-(P:Int) * ((1:Nat):Int)).sign == 0)=decide (P % q=0)):=by
    rw [Bool.eq_iff_iff,beq_iff_eq,Int.sign_eq_zero_iff_zero,decide_eq_true_eq]
    have h:=Nat.div_add_mod P q
    have h2:(((P / q:Nat):Int) * (q:Int))=((P / q * q:Nat):Int):=by push_cast;rfl
    have h3:P / q * q=q * (P / q):=Nat.mul_comm _ _
    omega
   generalize (((P / q:Nat):Int) * (q:Int)+-(P:Int) * ((1:Nat):Int)).sign=z at *
   have F0:=qh (E0.out.below hb8 E0.out.lt)
   have F5:=qh (E5.out.below hb8 E5.out.lt)
   have S8:=qh (R8.out.below hb8 ql)
   have HB9:=qh (HB8.out.trans (hb8.mono HB8.out.size))
   clear k5 k6 k7 j0 j1 j2 E0 E5 R8 HB8 D12 R7 hb8
   obtain ⟨-,-,i2,i3,i4⟩:=F0.out.c5
   dsimp only
   by_cases hq:P % q=0
   ·have hz:(z == 0)=true:=by rw [hsg];simpa using hq
    have HQ:=qh hq
    clear hsg hq
    have FN:Hid (frn=fs.length):=IL.len HFR.out
    obtain rfl:frn=fs.length:=FN.out
    have hfl:(fs.length:Int)≤1000000000:=by have:=HL2.out;omega
    go_wp2_with fail
    go_loopw [14,66] (fun s14 s66 wr=>∃ k:Nat,k≤fs.length∧s66=.int .i64 k∧s14=.bool (anyE P q ((fs.zip ts).take k))∧Below w8.heap.size w8 wr) (fun _ i _=>fs.length - (intOf i).toNat)
    case atStart=>exact ⟨0,Nat.zero_le _,rfl,rfl,Below.refl _ _⟩
    case round =>
     obtain ⟨kk,hk,rfl,rfl,hbr⟩:=hrel
     have X0:=qh (F0.out.below hbr F0.out.lt)
     have X5:=qh (F5.out.below hbr F5.out.lt)
     have Y8:=qh (S8.out.below hbr ql)
     have HBW:=qh (HB9.out.trans (hbr.mono HB9.out.size))
     have HBR:=qh hbr
     obtain ⟨-,-,i2,i3⟩:=X0.out.c4
     clear hbr
     by_cases hlt:kk<fs.length
     ·obtain ⟨fb,fo,hfa,hfc⟩:=IL.at (HFR.out.below HBW.out ql) (by omega)
      obtain ⟨tb,tq,hta,htc⟩:=IL.at (HTO.out.below HBW.out ql) (by have:=HL.out;omega)
      have htn:=IL.len HTO.out
      subst hfa
      subst hta
      obtain rfl:ton=fs.length:=by rw [htn];exact HL.out.symm
      obtain ⟨f,hf⟩:∃ f,fs[kk]?=some f:=⟨fs[kk],List.getElem?_eq_getElem hlt⟩
      obtain ⟨t',ht'⟩:∃ t,ts[kk]?=some t:=⟨ts[kk]'(by have:=HL.out;omega),List.getElem?_eq_getElem _⟩
      have cf:=hfc kk f hf
      have ct:=htc kk t' ht'
      have HTX:=qh (anyE_next (P:=P) (q:=q) hf ht')
      have hfl2:=HFB.out f (List.mem_of_getElem? hf)
      have htl2:=HTB.out t' (List.mem_of_getElem? ht')
      have CT:=qh ct
      have HF:Hid (∀ w',Below wr.heap.size wr w'→w'.cell? ⟨g,0,none⟩=some (.bool b3)∧w'.cell? ⟨g,1,none⟩=some (.slice A3' n3' c3')∧w'.cell? ⟨g,2,none⟩=some (.slice B3 m3 d3)∧w'.cell? ⟨w.heap.size,4,none⟩=some (.slice (some ⟨tb,tq,none⟩) fs.length toc)∧w'.cell? ⟨tb,tq+kk,none⟩=some (.int .i64 (t':Int))):=by
       have z0:=X0.out.lt
       have z5:=X5.out.lt
       have zt:=World.block_lt_of_cell? wr _ ct
       intro w' h
       exact ⟨(h.cell (by simp;omega)).trans (X5.out.cell 0),(h.cell (by simp;omega)).trans (X5.out.cell 1),(h.cell (by simp;omega)).trans (X5.out.cell 2),(h.cell (by simp;omega)).trans (X0.out.cell 4),(h.cell zt).trans CT.out⟩
      clear hfc htc hf ht' ct htn
      have hkI:(kk:Int)<(fs.length:Int):=by omega
      have hk0:(0:Int)≤(kk:Int):=by omega
      by_cases hin:anyE P q ((fs.zip ts).take kk)=true
      ·rw [hin]
       have HIN:=qh hin
       clear hin
       go_wp2_with fail
       refine wp_region_held_drew (S:=fun w'=>Below wr.heap.size wr w') (by kernel_rfl) (Below.refl _ _).drew (fun hHeld=>?_)
       refine wpAnyH_letter (fun w'=>Below wr.heap.size wr w') hHeld ?_
       rintro w6 hb6
       have HB6:=qh hb6
       clear hb6 hHeld
       refine takeY (i:=0) (v:=?v25) ?hy25 ?rest25
       case hy25=>(intro wz hSz;(have hfz:=HF.out wz hSz);go_split_ands;(first|(go_simp;done)|(go_simp;with_reducible rfl)))
       try simp only [Act.put,qqqT,qqq0,qqq1]
       refine takeY (i:=1) (v:=?v26) ?hy26 ?rest26
       case hy26=>(intro wz hSz;(have hfz:=HF.out wz hSz);go_split_ands;(first|(go_simp;done)|(go_simp;with_reducible rfl)))
       try simp only [Act.put,qqqT,qqq0,qqq1]
       refine takeN (i:=2) (v:=_) ?rest27
       try simp only [Act.put,qqqT,qqq0,qqq1]
       refine takeN (i:=3) (v:=_) ?rest28
       try simp only [Act.put,qqqT,qqq0,qqq1]
       refine takeN (i:=4) (v:=_) ?rest29
       try simp only [Act.put,qqqT,qqq0,qqq1]
       refine takeN (i:=5) (v:=_) ?rest30
       try simp only [Act.put,qqqT,qqq0,qqq1]
       refine takeN (i:=6) (v:=_) ?rest31
       try simp only [Act.put,qqqT,qqq0,qqq1]
       refine takeN (i:=7) (v:=_) ?rest32
       try simp only [Act.put,qqqT,qqq0,qqq1]
       refine takeN (i:=8) (v:=_) ?rest33
       try simp only [Act.put,qqqT,qqq0,qqq1]
       refine takeN (i:=9) (v:=_) ?rest34
       try simp only [Act.put,qqqT,qqq0,qqq1]
       refine takeN (i:=10) (v:=_) ?rest35
       try simp only [Act.put,qqqT,qqq0,qqq1]
       refine takeN (i:=11) (v:=_) ?rest36
       try simp only [Act.put,qqqT,qqq0,qqq1]
       refine takeN (i:=12) (v:=_) ?rest37
       try simp only [Act.put,qqqT,qqq0,qqq1]
       refine takeN (i:=13) (v:=_) ?rest38
       try simp only [Act.put,qqqT,qqq0,qqq1]
       refine takeN (i:=14) (v:=_) ?rest39
       try simp only [Act.put,qqqT,qqq0,qqq1]
       refine takeN (i:=15) (v:=_) ?rest40
       try simp only [Act.put,qqqT,qqq0,qqq1]
       refine takeN (i:=16) (v:=_) ?rest41
       try simp only [Act.put,qqqT,qqq0,qqq1]
       refine takeN (i:=17) (v:=_) ?rest42
       try simp only [Act.put,qqqT,qqq0,qqq1]
       refine takeY (i:=18) (v:=?v43) ?hy43 ?rest43
       case hy43=>(intro wz hSz;(have hfz:=HF.out wz hSz);go_split_ands;(first|(go_simp;done)|(go_simp;with_reducible rfl)))
       try simp only [Act.put,qqqT,qqq0,qqq1]
       refine takeY (i:=19) (v:=?v44) ?hy44 ?rest44
       case hy44=>(intro wz hSz;(have hfz:=HF.out wz hSz);go_split_ands;(first|(go_simp;done)|(go_simp;with_reducible rfl)))
       try simp only [Act.put,qqqT,qqq0,qqq1]
       refine wpAnyH_done (by kernel_rfl) ?_ _
       have HBZ:=qh (HBR.out.trans (HB6.out.mono HBR.out.size))
       go_wp2_with fail
       go_roundw
       case rel =>
        refine ⟨kk+1,by omega,by go_num,?_,HBZ.out⟩
        rw [HTX.out,HIN.out];rfl
       case measure=>simp [intOf];omega
      ·have hin':anyE P q ((fs.zip ts).take kk)=false:=by simpa using hin
       rw [hin']
       have HIN:=qh hin'
       clear hin hin'
       by_cases hc1:f * q≤P
       ·have HC1:=qh hc1
        clear hc1
        go_wp2_with fail
        refine wp_region_held_drew (S:=fun w'=>Below wr.heap.size wr w') (by kernel_rfl) (Below.refl _ _).drew (fun hHeld=>?_)
        refine wpAnyH_letter (fun w'=>Below wr.heap.size wr w') hHeld ?_
        rintro w6 hb6
        have HB6:=qh hb6
        clear hb6 hHeld
        refine takeY (i:=0) (v:=?v65) ?hy65 ?rest65
        case hy65=>(intro wz hSz;(have hfz:=HF.out wz hSz);go_split_ands;(first|(go_simp;done)|(go_simp;with_reducible rfl)))
        try simp only [Act.put,qqqT,qqq0,qqq1]
        refine takeY (i:=1) (v:=?v66) ?hy66 ?rest66
        case hy66=>(intro wz hSz;(have hfz:=HF.out wz hSz);go_split_ands;(first|(go_simp;done)|(go_simp;with_reducible rfl)))
        try simp only [Act.put,qqqT,qqq0,qqq1]
        refine takeY (i:=2) (v:=?v67) ?hy67 ?rest67
        case hy67=>(intro wz hSz;(have hfz:=HF.out wz hSz);go_split_ands;(first|(go_simp;done)|(go_simp;with_reducible rfl)))
        try simp only [Act.put,qqqT,qqq0,qqq1]
        refine takeY (i:=4) (v:=?v68) ?hy68 ?rest68
        case hy68=>(intro wz hSz;(have hfz:=HF.out wz hSz);go_split_ands;(first|(go_simp;done)|(go_simp;with_reducible rfl)))
        try simp only [Act.put,qqqT,qqq0,qqq1]
        refine wpAnyH_ready (rs:=[3]) (by kernel_rfl) (by simp) ?_
        refine consL rfl (fun K hK=>?_) AllReadyH.nil
        go_simp
        refine (rat_Int _ f (by omega)).mono ?_
        rintro e w169 ⟨⟨b69,A69,n69,c69,B69,m69,d69,rfl,r⟩,hb⟩
        have HB69:=qh (below_on HB6.out ql hb)
        have RI69:=qh r
        clear r hb
        dsimp only
        try clear hHeld
        refine hK.out _ _ (HB69.out) (fun hHeld=>?_)
        clear hK K
        try simp only [Act.put,qqqT,qqq0,qqq1]
        refine wpAnyH_ready (rs:=[5]) (by kernel_rfl) (by simp) ?_
        refine consL rfl (fun K hK=>?_) AllReadyH.nil
        go_simp
        refine (rat_Cmp _ b69 b3 A69 B69 A3' B3 n69 c69 m69 d69 n3' c3' m3 d3 (f:Int) (P:Int) 1 q 63 (2 * m+400) RI69.out (Y8.out.below HB69.out ql) (by omega) (by have:=HM2.out;omega)).mono ?_
        rintro e w170 ⟨rfl,hb⟩
        have HB70:=qh (below_on HB69.out ql hb)
        have hs70:=sign_low f P q
        rw [decide_eq_true HC1.out] at hs70
        generalize (((f:Int) * (q:Int)+-(P:Int) * ((1:Nat):Int)).sign)=z70 at *
        clear hb
        dsimp only
        try clear hHeld
        refine hK.out _ _ (HB70.out) (fun hHeld=>?_)
        clear hK K
        try simp only [Act.put,qqqT,qqq0,qqq1]
        refine takeY (i:=6) (v:=?v71) ?hy71 ?rest71
        case hy71=>(intro wz hSz;(have hfz:=HF.out wz hSz);go_split_ands;(first|(go_simp;done)|(go_simp;with_reducible rfl)))
        try simp only [Act.put,qqqT,qqq0,qqq1]
        refine takeY (i:=7) (v:=?v72) ?hy72 ?rest72
        case hy72=>(intro wz hSz;(have hfz:=HF.out wz hSz);go_split_ands;(first|(go_simp;done)|(go_simp;with_reducible rfl)))
        try simp only [Act.put,qqqT,qqq0,qqq1]
        refine takeY (i:=8) (v:=?v73) ?hy73 ?rest73
        case hy73=>(intro wz hSz;(have hfz:=HF.out wz hSz);go_split_ands;(first|(go_simp;done)|(go_simp;with_reducible rfl)))
        try simp only [Act.put,qqqT,qqq0,qqq1]
        refine takeY (i:=9) (v:=?v74) ?hy74 ?rest74
        case hy74=>(intro wz hSz;(have hfz:=HF.out wz hSz);go_split_ands;(first|(go_simp;done)|(go_simp;with_reducible rfl)))
        try simp only [Act.put,qqqT,qqq0,qqq1]
        refine takeY (i:=10) (v:=?v75) ?hy75 ?rest75
        case hy75=>(intro wz hSz;(have hfz:=HF.out wz hSz);go_split_ands;(first|(go_simp;done)|(go_simp;with_reducible rfl)))
        try simp only [Act.put,qqqT,qqq0,qqq1]
        refine takeY (i:=11) (v:=?v76) ?hy76 ?rest76
        case hy76=>(intro wz hSz;(have hfz:=HF.out wz hSz);go_split_ands;(first|(go_simp;done)|(go_simp;with_reducible rfl)))
        try simp only [Act.put,qqqT,qqq0,qqq1]
        refine takeY (i:=12) (v:=?v77) ?hy77 ?rest77
        case hy77=>(intro wz hSz;(have hfz:=HF.out wz hSz);go_split_ands;(first|(go_simp;done)|(go_simp;with_reducible rfl)))
        try simp only [Act.put,qqqT,qqq0,qqq1]
        refine takeY (i:=13) (v:=?v78) ?hy78 ?rest78
        case hy78=>(intro wz hSz;(have hfz:=HF.out wz hSz);go_split_ands;(first|(go_simp;done)|(go_simp;with_reducible rfl)))
        try simp only [Act.put,qqqT,qqq0,qqq1]
        refine wpAnyH_ready (rs:=[14]) (by kernel_rfl) (by simp) ?_
        refine consL rfl (fun K hK=>?_) AllReadyH.nil
        go_simp
        refine (rat_Int _ t' (by omega)).mono ?_
        rintro e w179 ⟨⟨b79,A79,n79,c79,B79,m79,d79,rfl,r⟩,hb⟩
        have HB79:=qh (below_on HB70.out ql hb)
        have RI79:=qh r
        clear r hb
        dsimp only
        try clear hHeld
        refine hK.out _ _ (HB79.out) (fun hHeld=>?_)
        clear hK K
        try simp only [Act.put,qqqT,qqq0,qqq1]
        refine wpAnyH_ready (rs:=[15]) (by kernel_rfl) (by simp) ?_
        refine consL rfl (fun K hK=>?_) AllReadyH.nil
        go_simp
        refine (rat_Cmp _ b3 b79 A3' B3 A79 B79 n3' c3' m3 d3 n79 c79 m79 d79 (P:Int) (t':Int) q 1 (2 * m+400) 63 (Y8.out.below HB79.out ql) RI79.out (by have:=HM2.out;omega) (by omega)).mono ?_
        rintro e w180 ⟨rfl,hb⟩
        have HB80:=qh (below_on HB79.out ql hb)
        have hs80:=sign_high t' P q
        generalize (((P:Int) * ((1:Nat):Int)+-(t':Int) * (q:Int)).sign)=z80 at *
        clear hb
        dsimp only
        try clear hHeld
        refine hK.out _ _ (HB80.out) (fun hHeld=>?_)
        clear hK K
        try simp only [Act.put,qqqT,qqq0,qqq1]
        refine takeY (i:=16) (v:=?v81) ?hy81 ?rest81
        case hy81=>(intro wz hSz;(have hfz:=HF.out wz hSz);go_split_ands;(first|(go_simp;done)|(go_simp;with_reducible rfl)))
        try simp only [Act.put,qqqT,qqq0,qqq1]
        refine takeY (i:=17) (v:=?v82) ?hy82 ?rest82
        case hy82=>(intro wz hSz;(have hfz:=HF.out wz hSz);go_split_ands;(first|(go_simp;done)|(go_simp;with_reducible rfl)))
        try simp only [Act.put,qqqT,qqq0,qqq1]
        refine takeY (i:=18) (v:=?v83) ?hy83 ?rest83
        case hy83=>(intro wz hSz;(have hfz:=HF.out wz hSz);go_split_ands;(first|(go_simp;done)|(go_simp;with_reducible rfl)))
        try simp only [Act.put,qqqT,qqq0,qqq1]
        refine takeY (i:=19) (v:=?v84) ?hy84 ?rest84
        case hy84=>(intro wz hSz;(have hfz:=HF.out wz hSz);go_split_ands;(first|(go_simp;done)|(go_simp;with_reducible rfl)))
        try simp only [Act.put,qqqT,qqq0,qqq1]
        refine wpAnyH_done (by kernel_rfl) ?_ _
        have HBZ:=qh (HBR.out.trans (HB80.out.mono HBR.out.size))
        go_wp2_with fail
        go_roundw
        case rel =>
         refine ⟨kk+1,by omega,by go_num,?_,HBZ.out⟩
         rw [HTX.out,HIN.out,decide_eq_true HC1.out];simp
        case measure=>simp [intOf];omega
       ·have HC1:=qh hc1
        clear hc1
        go_wp2_with fail
        refine wp_region_held_drew (S:=fun w'=>Below wr.heap.size wr w') (by kernel_rfl) (Below.refl _ _).drew (fun hHeld=>?_)
        refine wpAnyH_letter (fun w'=>Below wr.heap.size wr w') hHeld ?_
        rintro w6 hb6
        have HB6:=qh hb6
        clear hb6 hHeld
        refine takeY (i:=0) (v:=?v45) ?hy45 ?rest45
        case hy45=>(intro wz hSz;(have hfz:=HF.out wz hSz);go_split_ands;(first|(go_simp;done)|(go_simp;with_reducible rfl)))
        try simp only [Act.put,qqqT,qqq0,qqq1]
        refine takeY (i:=1) (v:=?v46) ?hy46 ?rest46
        case hy46=>(intro wz hSz;(have hfz:=HF.out wz hSz);go_split_ands;(first|(go_simp;done)|(go_simp;with_reducible rfl)))
        try simp only [Act.put,qqqT,qqq0,qqq1]
        refine takeY (i:=2) (v:=?v47) ?hy47 ?rest47
        case hy47=>(intro wz hSz;(have hfz:=HF.out wz hSz);go_split_ands;(first|(go_simp;done)|(go_simp;with_reducible rfl)))
        try simp only [Act.put,qqqT,qqq0,qqq1]
        refine takeY (i:=4) (v:=?v48) ?hy48 ?rest48
        case hy48=>(intro wz hSz;(have hfz:=HF.out wz hSz);go_split_ands;(first|(go_simp;done)|(go_simp;with_reducible rfl)))
        try simp only [Act.put,qqqT,qqq0,qqq1]
        refine wpAnyH_ready (rs:=[3]) (by kernel_rfl) (by simp) ?_
        refine consL rfl (fun K hK=>?_) AllReadyH.nil
        go_simp
        refine (rat_Int _ f (by omega)).mono ?_
        rintro e w149 ⟨⟨b49,A49,n49,c49,B49,m49,d49,rfl,r⟩,hb⟩
        have HB49:=qh (below_on HB6.out ql hb)
        have RI49:=qh r
        clear r hb
        dsimp only
        try clear hHeld
        refine hK.out _ _ (HB49.out) (fun hHeld=>?_)
        clear hK K
        try simp only [Act.put,qqqT,qqq0,qqq1]
        refine wpAnyH_ready (rs:=[5]) (by kernel_rfl) (by simp) ?_
        refine consL rfl (fun K hK=>?_) AllReadyH.nil
        go_simp
        refine (rat_Cmp _ b49 b3 A49 B49 A3' B3 n49 c49 m49 d49 n3' c3' m3 d3 (f:Int) (P:Int) 1 q 63 (2 * m+400) RI49.out (Y8.out.below HB49.out ql) (by omega) (by have:=HM2.out;omega)).mono ?_
        rintro e w150 ⟨rfl,hb⟩
        have HB50:=qh (below_on HB49.out ql hb)
        have hs50:=sign_low f P q
        rw [decide_eq_false HC1.out] at hs50
        generalize (((f:Int) * (q:Int)+-(P:Int) * ((1:Nat):Int)).sign)=z50 at *
        clear hb
        dsimp only
        try clear hHeld
        refine hK.out _ _ (HB50.out) (fun hHeld=>?_)
        clear hK K
        try simp only [Act.put,qqqT,qqq0,qqq1]
        refine takeY (i:=6) (v:=?v51) ?hy51 ?rest51
        case hy51=>(intro wz hSz;(have hfz:=HF.out wz hSz);go_split_ands;(first|(go_simp;done)|(go_simp;with_reducible rfl)))
        try simp only [Act.put,qqqT,qqq0,qqq1]
        refine takeY (i:=7) (v:=?v52) ?hy52 ?rest52
        case hy52=>(intro wz hSz;(have hfz:=HF.out wz hSz);go_split_ands;(first|(go_simp;done)|(go_simp;with_reducible rfl)))
        try simp only [Act.put,qqqT,qqq0,qqq1]
        refine takeN (i:=8) (v:=_) ?rest53
        try simp only [Act.put,qqqT,qqq0,qqq1]
        refine takeN (i:=9) (v:=_) ?rest54
        try simp only [Act.put,qqqT,qqq0,qqq1]
        refine takeN (i:=10) (v:=_) ?rest55
        try simp only [Act.put,qqqT,qqq0,qqq1]
        refine takeN (i:=11) (v:=_) ?rest56
        try simp only [Act.put,qqqT,qqq0,qqq1]
        refine takeN (i:=12) (v:=_) ?rest57
        try simp only [Act.put,qqqT,qqq0,qqq1]
        refine takeN (i:=13) (v:=_) ?rest58
        try simp only [Act.put,qqqT,qqq0,qqq1]
        refine takeN (i:=14) (v:=_) ?rest59
        try simp only [Act.put,qqqT,qqq0,qqq1]
        refine takeN (i:=15) (v:=_) ?rest60
        try simp only [Act.put,qqqT,qqq0,qqq1]
        refine takeN (i:=16) (v:=_) ?rest61
        try simp only [Act.put,qqqT,qqq0,qqq1]
        refine takeY (i:=17) (v:=?v62) ?hy62 ?rest62
        case hy62=>(intro wz hSz;(have hfz:=HF.out wz hSz);go_split_ands;(first|(go_simp;done)|(go_simp;with_reducible rfl)))
        try simp only [Act.put,qqqT,qqq0,qqq1]
        refine takeY (i:=18) (v:=?v63) ?hy63 ?rest63
        case hy63=>(intro wz hSz;(have hfz:=HF.out wz hSz);go_split_ands;(first|(go_simp;done)|(go_simp;with_reducible rfl)))
        try simp only [Act.put,qqqT,qqq0,qqq1]
        refine takeY (i:=19) (v:=?v64) ?hy64 ?rest64
        case hy64=>(intro wz hSz;(have hfz:=HF.out wz hSz);go_split_ands;(first|(go_simp;done)|(go_simp;with_reducible rfl)))
        try simp only [Act.put,qqqT,qqq0,qqq1]
        refine wpAnyH_done (by kernel_rfl) ?_ _
        have HBZ:=qh (HBR.out.trans (HB50.out.mono HBR.out.size))
        go_wp2_with fail
        go_roundw
        case rel =>
         refine ⟨kk+1,by omega,by go_num,?_,HBZ.out⟩
         rw [HTX.out,HIN.out,decide_eq_false HC1.out];rfl
        case measure=>simp [intOf];omega
     ·have hk2:kk=fs.length:=by omega
      subst hk2
      have hkI:¬ (fs.length:Int)<(fs.length:Int):=by omega
      go_wp2_with fail
      go_ret
      refine ⟨?_,HBW.out⟩
      rw [HPV.out,HQV.out]
      unfold condHolds
      rw [← HP.out]
      have hz2:(fs.zip ts).take fs.length=fs.zip ts:=List.take_of_length_le (by simp;omega)
      rw [hz2]
      simp only [HQ.out,decide_true,Bool.true_and]
      rfl
   ·have hz:(z == 0)=false:=by rw [hsg];simpa using hq
    have HQ:=qh hq
    clear hsg hq
    go_wp2_with fail
    go_ret
    refine ⟨?_,HB9.out⟩
    rw [HPV.out,HQV.out]
    unfold condHolds
    rw [← HP.out]
    simp [HQ.out]
end Go.Proofs.YtdgleeglndcjhaaGreatDoor
