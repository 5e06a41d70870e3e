import Derived.Test.YtdgleeglndcjhaaGreatDoorX21
import Derived.Deep.CutBlock
import Derived.Test.YtdgleeglndcjhaaGreatDoorX22
import Derived.Test.YtdgleeglndcjhaaGreatDoorX08
import Derived.Test.YtdgleeglndcjhaaGreatDoorX03
set_option linter.unusedSimpArgs false
set_option linter.unusedVariables false
set_option maxHeartbeats 8000000
set_option maxRecDepth 100000
namespace Go.Proofs.YtdgleeglndcjhaaGreatDoor
open Go.RowKit
def IL (w:World) (A:Option Addr) (n c:Nat) (l:List Nat):Prop:=SlC w (.slice A n c) 1 l.length (l.map fun x:Nat=>Value.int .i64 (x:Int))
theorem IL.below {w w':World} {A:Option Addr} {n c B:Nat} {l:List Nat} (h:IL w A n c l) (hb:Below B w w') (hB:w.heap.size≤B):IL w' A n c l:=SlC.below h hb hB
theorem IL.len {w:World} {A:Option Addr} {n c:Nat} {l:List Nat} (h:IL w A n c l):n=l.length:=by
 obtain ⟨A',c',h1,-⟩:=h;exact (Value.slice.inj h1).2.1
theorem IL.at {w:World} {A:Option Addr} {n c:Nat} {l:List Nat} (h:IL w A n c l) (h0:0<l.length):∃ b o,A=some ⟨b,o,none⟩∧∀ (j x:Nat),l[j]?=some x→w.cell? ⟨b,o+j,none⟩=some (.int .i64 (x:Int)):=by
 obtain ⟨A',c',h1,h2,h3,h4⟩:=h;obtain ⟨b,o,h5,h6⟩:=h4 (by simpa using h0);obtain ⟨rfl,-,-⟩:=Value.slice.inj h1;exact ⟨b,o,h5,fun j x hx=>h6 j _ (by simp [hx])⟩
def anyE (P q:Nat) (L:List (Nat × Nat)):Bool:=L.any fun e=>decide (e.1 * q≤P) && decide (P≤e.2 * q)
theorem anyE_next {P q k f t:Nat} {fs ts:List Nat} (hf:fs[k]?=some f) (ht:ts[k]?=some t):anyE P q ((fs.zip ts).take (k+1))=(anyE P q ((fs.zip ts).take k) || (decide (f * q≤P) && decide (P≤t * q))):=by
 have h:(fs.zip ts)[k]?=some (f,t):=by rw [List.getElem?_zip_eq_some];exact ⟨hf,ht⟩
 rw [List.take_add_one,h];simp [anyE]
theorem sign_le {x:Int}:(x.sign≤0)↔x≤0:=by
 rcases Int.lt_trichotomy x 0 with h|h|h
 ·rw [Int.sign_eq_neg_one_of_neg h];omega
 ·subst h;simp
 ·rw [Int.sign_eq_one_of_pos h];omega
theorem sign_low (f P q:Nat):decide (((f:Int) * (q:Int)+-(P:Int) * ((1:Nat):Int)).sign≤0)=decide (f * q≤P):=by
 rw [decide_eq_decide,sign_le];have:(f:Int) * (q:Int)=((f * q:Nat):Int):=by push_cast;rfl
 omega
theorem sign_high (t P q:Nat):decide (((P:Int) * ((1:Nat):Int)+-(t:Int) * (q:Int)).sign≤0)=decide (P≤t * q):=by
 rw [decide_eq_decide,sign_le,Int.neg_mul];have:(t:Int) * (q:Int)=((t * q:Nat):Int):=by push_cast;rfl
 omega
theorem RF.floor_lt {w:World} {b:Bool} {A A':Option Addr} {n c n' c':Nat} {p q k:Nat} (h:RF w b A n c A' n' c' p q k):p / q<2 ^ k:=by
 obtain ⟨p',q',h1,h2,h3,h4,h5,h6,h7⟩:=h.ex;obtain ⟨e0,e33⟩:=nat_terms h1 h2 h3;rw [← floor_terms h1 h2 e33];exact Nat.lt_of_le_of_lt (Nat.div_le_self _ _) h6
theorem RF.to {w:World} {b:Bool} {A A':Option Addr} {n c n' c':Nat} {p r:Int} {q s k:Nat} (h:RF w b A n c A' n' c' p q k) (hp:p=r) (hq:q=s):RF w b A n c A' n' c' r s k:=by subst hp;subst hq;exact h
theorem mod_terms (p q m:Nat):(p:Int) * ((1 * 1:Nat):Int)+(-(((p / (q * m):Nat):Int) * (m:Int))) * (q:Int)=((p % (q * m):Nat):Int):=by
 have h:=Nat.div_add_mod p (q * m);have h2:((q * m * (p / (q * m))+p % (q * m):Nat):Int)=(p:Int):=by rw [h]
 push_cast at h2 ⊢;generalize ((p:Int) / ((q:Int) * (m:Int)))=x at *
 generalize ((p:Int) % ((q:Int) * (m:Int)))=y at *
 grind
def CondAt (W:World) (g:Nat) (cs:List Value) (p q k:Nat) (w:World):Prop:=Blk w W.heap.size 47 cs∧∃ b A n c A' n' c',Blk w g 37 [.bool b,.slice A n c,.slice A' n' c']∧RF w b A n c A' n' c' p q k∧Below W.heap.size W w
theorem cond_holds (w:World) (b nt:Bool) (A A' iA fA tA frA toA:Option Addr) (n c n' c' il ic fl fc tl tc k s m i v u f t l mod frn frc ton toc:Nat) (fs ts:List Nat) (h:OpR w b A n c A' n' c' iA il ic fA fl fc tA tl tc k s m i v u f t) (hm:63≤m) (hm2:m≤40000)
  (hfr:IL w frA frn frc fs) (hto:IL w toA ton toc ts) (hl:fs.length=ts.length) (hl2:fs.length≤1000000000) (hmod:mod<4294967296) (hf:∀ x ∈ fs,x<4294967296) (ht:∀ x ∈ ts,x<4294967296) :
  Calls Tryz.prog 57 #[.agg #[.int .u8 l,.int .i64 mod,.bool nt,.slice frA frn frc,.slice toA ton toc],.agg #[.bool b,.slice A n c,.slice A' n' c',.slice iA il ic,.int .i64 v,.int .i64 u,.slice fA fl fc,.slice tA tl tc]] w fun e w'=>e=.returned (.bool (condHolds (opVal k s i v u f t l).1 (opVal k s i v u f t l).2 mod nt (fs.zip ts)))∧Below w.heap.size w w':=by
 have HX:=qh h;have HM:=qh hm;have HM2:=qh hm2;have HFR:=qh hfr;have HTO:=qh hto;have HL:=qh hl;have HL2:=qh hl2;have HMOD:=qh hmod;have HFB:=qh hf;have HTB:=qh ht;clear h hm hm2 hfr hto hl hl2 hmod hf ht;go_enter Tryz.func57,Tryz.ntmps57;go_upto_region 1 with fail;refine wp_letter (fun w1=>Blk w1 w.heap.size 47 [.int .u8 l,.int .i64 mod,.bool nt,.slice frA frn frc,.slice toA ton toc]∧Blk w1 (w.heap.size+1) 39 [.bool b,.slice A n c,.slice A' n' c',.slice iA il ic,.int .i64 v,.int .i64 u,.slice fA fl fc,.slice tA tl tc]∧Below w.heap.size w w1) ⟨((Blk.made _ 47 _ _ _ (by simp) rfl).alloc _),(Blk.made _ 39 _ _ _ (by simp) rfl),(((Below.refl _ _).alloc (by simp;try omega) _).alloc (by simp;try omega) _)⟩ ?_;rintro w1 ⟨b0,b1,hb⟩;obtain ⟨k00,k01,k02,k03,k04⟩:=b0.c5;obtain ⟨k10,k11,k12,k13,k14,k15,k16,k17⟩:=b1.c8;have HB:=qh hb;have H0:=qh b0;have H1:=qh b1;have hz:=b1.lt;clear hb b0 b1;have HX1:=qh (HX.o.below HB.o ql);go_wp2_with fail;refine (oper_Value _ b A A' iA fA tA n c n' c' il ic fl fc tl tc k s m i v u f t l HX1.o HM.o (by have:=HM2.o;omega)).mono ?_;rintro e w2 ⟨⟨b2,A2,n2,c2,A3,n3,c3,ok,rfl,hr⟩,hb2⟩;obtain ⟨p,hp⟩:∃ p,(opVal k s i v u f t l).1=p:=⟨_,rfl⟩;obtain ⟨q,hq⟩:∃ q,(opVal k s i v u f t l).2=q:=⟨_,rfl⟩;rw [hp,hq] at hr;have HPV:=qh hp;have HQV:=qh hq;clear hp hq;dsimp only;go_upto_region 2 with fail;generalize hg:w2.heap.size=g
 refine wp_letter (fun w3=>Blk w3 w.heap.size 47 [.int .u8 l,.int .i64 mod,.bool nt,.slice frA frn frc,.slice toA ton toc]∧Blk w3 g 37 [.bool b2,.slice A2 n2 c2,.slice A3 n3 c3]∧RF w3 b2 A2 n2 c2 A3 n3 c3 p q m∧Below w.heap.size w w3)
  ⟨(H0.o.below hb2 H0.o.lt).alloc _,Blk.made _ 37 _ _ _ hg.symm rfl,hr.below ((Below.refl _ _).alloc ql _) ql,(HB.o.trans (hb2.mono HB.o.size)).alloc (by have:=hb2.size;omega) _⟩ ?_
 have hgn:w.heap.size+1<g:=by have:=hb2.size;omega
 clear k00 k01 k02 k03 k04 k10 k11 k12 k13 k14 k15 k16 k17 hr hb2 hg HX1 H0 H1 HB hz HX;rintro w3 ⟨b0,b5,r5,hb3⟩;have C0:=qh b0;have C5:=qh b5;have R5:=qh r5;have HB3:=qh hb3;obtain ⟨k0,k1⟩:=b0.c2;obtain ⟨k5,k6,k7⟩:=b5.c3;clear b0 b5 r5 hb3;go_upto_if 26 with fail;go_cut [] (fun wx=>CondAt w g [.int .u8 l,.int .i64 mod,.bool nt,.slice frA frn frc,.slice toA ton toc] (if 0<mod then p % (q * mod) else p) q (2 * m+400) wx)
 case first =>
  by_cases hm0:0<mod
  ·have HM0:=qh hm0;have hmI:(0:Int)<(mod:Int):=by omega
   clear hm0;go_wp2_with fail;refine (rat_Int _ mod (by have:=HMOD.o;omega)).mono ?_;rintro e w4 ⟨⟨b4,A4,n4,c4,B4,m4,d4,rfl,r4⟩,hb4⟩;dsimp only;go_wp2_with fail;refine (rat_Inv _ b4 A4 B4 n4 c4 m4 d4 mod 1 63 r4 (by omega) HM0.o).mono ?_;rintro e w5 ⟨⟨b5,A5,n5,c5,B5,m5,d5,rfl,r5⟩,hb5⟩;have hz5:w3.heap.size≤w5.heap.size:=Nat.le_trans hb4.size hb5.size;have y5:=((C5.o.below hb4 C5.o.lt).below hb5 (Nat.lt_of_lt_of_le C5.o.lt hb4.size)).alloc (.cells #[.bool b5,.slice A5 n5 c5,.slice B5 m5 d5] 37);obtain ⟨t0,t1,t2⟩:=y5.c3;dsimp only;go_wp2_with fail;have hba:Below w5.heap.size w5 (w5.alloc (.cells #[.bool b5,.slice A5 n5 c5,.slice B5 m5 d5] 37)):=(Below.refl _ _).alloc ql _;have h35:Below w3.heap.size w3 w5:=hb4.trans (hb5.mono hb4.size);have h36:=qh (h35.trans (hba.mono h35.size));have r6:=r5.below hba ql;refine (rat_Mul _ b2 b5 A2 A3 A5 B5 n2 c2 n3 c3 n5 c5 m5 d5 p ((1:Nat):Int) q mod m 63 (R5.o.below h36.out ql) r6 (by have:=HM2.o;omega) (by omega)).mono ?_;rintro e w6 ⟨⟨b6,A6,n6,c6,B6,m6,d6,rfl,r7⟩,hb6⟩;have R7:=qh (r7.to (r:=(p:Int)) (s:=q * mod) (by simp) rfl);have FL:=qh (RF.floor_lt (p:=p) R7.o);clear t0 t1 t2 r7;dsimp only;go_wp2_with fail;refine (rat_Floor _ b6 A6 B6 n6 c6 m6 d6 p (q * mod) (m+63) R7.o (by have:=HM2.o;omega)).mono ?_;rintro e w7 ⟨⟨b7,A7,n7,c7,rfl,r7⟩,hb7⟩;dsimp only;go_wp2_with fail;refine (natOf _ 1 (by omega)).mono ?_;rintro e w8 ⟨⟨A8,n8,c8,rfl,r8⟩,hb8⟩;dsimp only;go_wp2_with fail;refine (rat_Of _ b7 A7 A8 n7 c7 n8 c8 ((p / (q * mod):Nat):Int) 1 (m+63) (r7.below hb8 ql) r8 (by omega) (by rw [Int.natAbs_natCast];exact FL.o) (Nat.one_lt_two_pow (by omega)) (by have:=HM2.o;omega)).mono ?_;rintro e w9 ⟨⟨b9,A9,n9,c9,B9,m9,d9,rfl,r9⟩,hb9⟩;dsimp only;go_wp2_with fail;generalize hg9:w9.heap.size=g9;have h39:Below w3.heap.size w3 w9:=((((h36.out.trans (hb6.mono h36.out.size)).trans (hb7.mono (Nat.le_trans h36.out.size hb6.size))).trans (hb8.mono (Nat.le_trans h36.out.size (Nat.le_trans hb6.size hb7.size)))).trans (hb9.mono (Nat.le_trans h36.out.size (Nat.le_trans hb6.size (Nat.le_trans hb7.size hb8.size)))));have hbz:Below w9.heap.size w9 (w9.alloc (.cells #[.bool b9,.slice A9 n9 c9,.slice B9 m9 d9] 37)):=(Below.refl _ _).alloc ql _;have h3z:=h39.trans (hbz.mono h39.size)
   refine wp_letter (fun wa=>Blk wa w.heap.size 47 [.int .u8 l,.int .i64 mod,.bool nt,.slice frA frn frc,.slice toA ton toc]∧Blk wa g 37 [.bool b2,.slice A2 n2 c2,.slice A3 n3 c3]∧Blk wa g9 37 [.bool b9,.slice A9 n9 c9,.slice B9 m9 d9]∧RF wa b2 A2 n2 c2 A3 n3 c3 p q m∧RF wa b9 A9 n9 c9 B9 m9 d9 ((p / (q * mod):Nat):Int) 1 (m+63)∧Below w.heap.size w wa)
    ⟨C0.o.below h3z C0.o.lt,C5.o.below h3z C5.o.lt,Blk.made _ 37 _ _ _ hg9.symm rfl,R5.o.below h3z ql,r9.below hbz ql,HB3.o.trans (h3z.mono HB3.o.size)⟩ ?_
   have hg9':g<g9:=by have:=C5.o.lt;have:=h39.size;omega
   clear hbz h3z h39 hg9 r9 hb9 r8 hb8 r7 hb7 hb6 R7 FL r6 h36 h35 hba y5 hz5 r5 hb5 r4 hb4 k0 k1 k5 k6 k7 C0 C5 R5 HB3;rintro wa ⟨b0,bg,bg9,ra,r9,hba⟩;have G0:=qh b0;have G5:=qh bg;have G9:=qh bg9;have RA:=qh ra;have R9:=qh r9;have HBA:=qh hba;have hza:=bg9.lt;clear b0 bg bg9 ra r9 hba;have HF:Hid (∀ w',Below wa.heap.size wa w'→w'.cell? ⟨w.heap.size,1,none⟩=some (.int .i64 mod)∧w'.cell? ⟨g,0,none⟩=some (.bool b2)∧w'.cell? ⟨g,1,none⟩=some (.slice A2 n2 c2)∧w'.cell? ⟨g,2,none⟩=some (.slice A3 n3 c3)∧w'.cell? ⟨g9,0,none⟩=some (.bool b9)∧w'.cell? ⟨g9,1,none⟩=some (.slice A9 n9 c9)∧w'.cell? ⟨g9,2,none⟩=some (.slice B9 m9 d9)∧w'.frozen? ⟨g,0,none⟩=false∧w'.frozen? ⟨g,1,none⟩=false∧w'.frozen? ⟨g,2,none⟩=false):=fun w' h=>⟨(h.cell (by simp;omega)).trans (G0.o.cell 1),(h.cell (by simp;omega)).trans (G5.o.cell 0),(h.cell (by simp;omega)).trans (G5.o.cell 1),(h.cell (by simp;omega)).trans (G5.o.cell 2),(h.cell (by simp;omega)).trans (G9.o.cell 0),(h.cell (by simp;omega)).trans (G9.o.cell 1),(h.cell (by simp;omega)).trans (G9.o.cell 2),(h.frozen (by simp;omega)).trans (G5.o.frozen 0),(h.frozen (by simp;omega)).trans (G5.o.frozen 1),(h.frozen (by simp;omega)).trans (G5.o.frozen 2)⟩;obtain ⟨k1,t50,t51,t52,t90,t91,t92,x0,x1,x2⟩:=HF.o wa (Below.refl _ _);clear k1 t50 t51 t52 t90 t91 t92 x0 x1 x2;refine wp_region_but (fun w'=>Below wa.heap.size wa w') (by kernel_rfl) (by kernel_rfl) (Below.refl _ _).drew (fun hHeld=>?_);simp only [initL,lastL];refine takeA (i:=0) ?_
   try simp only [Act.put,MT,M0,M1]
   refine takeA (i:=1) ?_
   try simp only [Act.put,MT,M0,M1]
   refine takeA (i:=2) ?_
   try simp only [Act.put,MT,M0,M1]
   refine takeA (i:=3) ?_
   try simp only [Act.put,MT,M0,M1]
   refine wpAnyH_ready (rs:=[4]) (by kernel_rfl) (by simp) ?_;refine consL rfl (fun K hK=>?_) AllReadyH.nil;go_simp;refine (rat_Int _ mod (by have:=HMOD.o;omega)).mono ?_;rintro e wb ⟨⟨bb,Ab,nb,cb,Bb,mb,db,rfl,rb⟩,hbb⟩;have Hb:=qh (below_on (Below.refl wa.heap.size wa).drew ql hbb);have RB:=qh rb;clear rb hbb;dsimp only;refine hK.out _ _ Hb.o (fun hHeld=>?_);clear hK K
   try simp only [Act.put,MT,M0,M1]
   refine wpAnyH_ready (rs:=[5]) (by kernel_rfl) (by simp) ?_;refine consL rfl (fun K hK=>?_) AllReadyH.nil;go_simp;refine (rat_Mul _ b9 bb A9 B9 Ab Bb n9 c9 m9 d9 nb cb mb db ((p / (q * mod):Nat):Int) (mod:Int) 1 1 (m+63) 63 (R9.o.below Hb.o ql) RB.o (by have:=HM2.o;omega) (by omega)).mono ?_;rintro e wc ⟨⟨bc,Ac,nc,cc,Bc,mc,dc,rfl,rc⟩,hbc⟩;have Hc:=qh (below_on Hb.o ql hbc);have RC:=qh rc;clear rc hbc;dsimp only;refine hK.out _ _ Hc.o (fun hHeld=>?_);clear hK K
   try simp only [Act.put,MT,M0,M1]
   refine wpAnyH_ready (rs:=[6]) (by kernel_rfl) (by simp) ?_;refine consL rfl (fun K hK=>?_) AllReadyH.nil;go_simp;refine (rat_Neg _ bc Ac Bc nc cc mc dc _ _ _ RC.o (by have:=HM2.o;omega)).mono ?_;rintro e wd ⟨⟨bd,Ad,nd,cd,Bd,md,dd,rfl,rd⟩,hbd⟩;have Hd:=qh (below_on Hc.o ql hbd);have RD:=qh rd;clear rd hbd;dsimp only;refine hK.out _ _ Hd.o (fun hHeld=>?_);clear hK K
   try simp only [Act.put,MT,M0,M1]
   refine wpAnyH_ready (rs:=[7]) (by kernel_rfl) (by simp) ?_;refine consL rfl (fun K hK=>?_) AllReadyH.nil;go_simp;refine (rat_Add _ b2 bd A2 A3 Ad Bd n2 c2 n3 c3 nd cd md dd p _ q _ m _ (RA.o.below Hd.o ql) RD.o (by have:=HM2.o;omega) (by have:=HM2.o;omega)).mono ?_;rintro e we ⟨⟨be,Ae,ne,ce,Be,me,de,rfl,re⟩,hbe⟩;have He:=qh (below_on Hd.o ql hbe);have RE:=qh re;clear re hbe;dsimp only;refine hK.out _ _ He.o (fun hHeld=>?_);clear hK K
   try simp only [Act.put,MT,M0,M1]
   refine wpAnyH_done (by kernel_rfl) ?_ _;unfold TailQ;obtain ⟨k1,t50,t51,t52,t90,t91,t92,x0,x1,x2⟩:=HF.o _ He.o;have y0:=G0.o.below He.o G0.o.lt;have y5:=G5.o.below He.o G5.o.lt;have hd:Hold we g 37 3 we:=Hold.start y5 (by simp [No32]);have hf:=hd.fill3 (.bool be) (.slice Ae ne ce) (.slice Be me de);have T:∀ {A0:Option Addr} {m0 c0 k0:Nat},SN we A0 m0 c0 k0→SN (((we.setCell ⟨g,0,none⟩ (.bool be)).setCell ⟨g,1,none⟩ (.slice Ae ne ce)).setCell ⟨g,2,none⟩ (.slice Be me de)) A0 m0 c0 k0:=fun hs=>((hs.hset hd 0 (.bool be)).hset (hd.set 0 (.bool be) (by simp)) 1 (.slice Ae ne ce)).hset ((hd.set 0 (.bool be) (by simp)).set 1 (.slice Ae ne ce) (by simp)) 2 (.slice Be me de);have hw:=(((hd.set 0 (.bool be) (by simp)).set 1 (.slice Ae ne ce) (by simp)).set 2 (.slice Be me de) (by simp)).below (Nat.le_of_lt (Nat.lt_trans (Nat.lt_succ_self _) hgn));have y1:=((y0.far ⟨g,0,none⟩ (.bool be) (by simp;omega)).far ⟨g,1,none⟩ (.slice Ae ne ce) (by simp;omega)).far ⟨g,2,none⟩ (.slice Be me de) (by simp;omega);have hr:=((RE.o.to (s:=q) (mod_terms p q mod) (by simp)).map T).mono (m:=2 * m+400) (by omega);go_wp2_with fail;go_meet
   rw [if_pos HM0.o];exact ⟨y1,_,_,_,_,_,_,_,hf,hr,(HBA.o.trans (He.o.mono HBA.o.size)).trans hw⟩
  ·have hmI:¬ (0:Int)<(mod:Int):=by omega
   have HM0:=qh hm0;clear hm0;go_wp2_with fail;go_meet
   rw [if_neg HM0.o];exact ⟨C0.o,_,_,_,_,_,_,_,C5.o,R5.o.mono (by omega),HB3.o⟩
 case rest =>
  obtain ⟨P,hP⟩:∃ P:Nat,P=(if 0<mod then p % (q * mod) else p):=⟨_,rfl⟩;have HP:=qh hP;rw [← hP] at hcut;clear hP C0 C5 R5 HB3 k0 k1 k5 k6 k7;obtain ⟨d0,b3,A3',n3',c3',B3,m3,d3,d5,r3,hb3⟩:=hcut;have D0:=qh d0;have D5:=qh d5;have R3:=qh r3;have HB3:=qh hb3;obtain ⟨k5,k6,k7⟩:=d5.c3;clear d0 d5 r3 hb3;go_step;go_wp2_with fail;refine (rat_Floor _ b3 A3' B3 n3' c3' m3 d3 P q (2 * m+400) R3.o (by have:=HM2.o;omega)).mono ?_;rintro e w4 ⟨⟨b4,A4,n4,c4,rfl,r4⟩,hb4⟩;dsimp only;go_upto_region 7 with fail;generalize hg11:w4.heap.size=g11;have hx4:g<w4.heap.size:=Nat.lt_of_lt_of_le D5.o.lt hb4.size
  refine wp_letter (fun w5=>Blk w5 w.heap.size 47 [.int .u8 l,.int .i64 mod,.bool nt,.slice frA frn frc,.slice toA ton toc]∧Blk w5 g 37 [.bool b3,.slice A3' n3' c3',.slice B3 m3 d3]∧Blk w5 g11 35 [.bool b4,.slice A4 n4 c4]∧RF w5 b3 A3' n3' c3' B3 m3 d3 P q (2 * m+400)∧RZ w5 b4 A4 n4 c4 ((P / q:Nat):Int)∧Below w.heap.size w w5)
   ⟨(D0.o.below hb4 D0.o.lt).alloc _,(D5.o.below hb4 D5.o.lt).alloc _,Blk.made _ 35 _ _ _ hg11.symm rfl,(R3.o.below hb4 ql).below ((Below.refl _ _).alloc ql _) ql,r4.below ((Below.refl _ _).alloc ql _) ql,(HB3.o.trans (hb4.mono HB3.o.size)).alloc (Nat.le_trans HB3.o.size hb4.size) _⟩ ?_
  have hgg:g<g11:=by omega
  clear k5 k6 k7 r4 hb4 hg11 D0 D5 R3 HB3 hx4;rintro w5 ⟨d0,d5,d11,r3,r4,hb5⟩;have D0:=qh d0;have D5:=qh d5;have D11:=qh d11;have R3:=qh r3;have R4:=qh r4;have HB5:=qh hb5;have FL:Hid (P / q<2 ^ (2 * m+400)):=RF.floor_lt r3;have hz5:=d11.lt;clear d0 d5 d11 r3 r4 hb5;have HF:Hid (∀ w',Below w5.heap.size w5 w'→w'.cell? ⟨g11,0,none⟩=some (.bool b4)∧w'.cell? ⟨g11,1,none⟩=some (.slice A4 n4 c4)):=fun w' h=>⟨(h.cell (by simp;omega)).trans (D11.o.cell 0),(h.cell (by simp;omega)).trans (D11.o.cell 1)⟩;go_cut [12] (fun s12 wx=>∃ g12,s12=.pointer (some ⟨g12,0,none⟩)∧TookQ w5 g12 ((P / q:Nat):Int) 1 (2 * m+400) wx)
  case first =>
   refine wp_region_held_drew (S:=fun w'=>Below w5.heap.size w5 w') (by kernel_rfl) (Below.refl _ _).drew (fun hHeld=>?_);refine wpAnyH_letter (fun w'=>Below w5.heap.size w5 w') hHeld ?_;rintro w6 hb6;have HB6:=qh hb6;clear hb6 hHeld;refine takeA (i:=0) ?_
   try simp only [Act.put,MT,M0,M1]
   refine wpAnyH_ready (rs:=[1,6]) (by kernel_rfl) (by simp) ?_;refine consL rfl (fun K hK=>?_) ?_
   ·skip;go_simp;refine (natOf _ 1 (by omega)).mono ?_;rintro e w102 ⟨⟨A2,n2,c2,rfl,r⟩,hb⟩;have HB2:=qh (below_on HB6.o ql hb);have RN2:=qh r;clear r hb;dsimp only
    try clear hHeld
    refine hK.out _ _ (HB2.o) (fun hHeld=>?_);clear hK K
    try simp only [Act.put,MT,M0,M1]
    refine wpAnyH_ready (rs:=[2,6]) (by kernel_rfl) (by simp) ?_;refine consL rfl (fun K hK=>?_) ?_
    ·skip;go_simp;refine (rat_Of _ b4 A4 A2 n4 c4 n2 c2 ((P / q:Nat):Int) 1 (2 * m+400) (R4.o.below HB2.o ql) RN2.o (by omega) (by rw [Int.natAbs_natCast];exact FL.o) (Nat.one_lt_two_pow (by omega)) (by have:=HM2.o;omega)).mono ?_;rintro e w103 ⟨⟨b3,A3,n3,c3,B3,m3,d3,rfl,r⟩,hb⟩;have HB3:=qh (below_on HB2.o ql hb);have RQ3:=qh r;clear r hb;dsimp only
     try clear hHeld
     refine hK.out _ _ (HB3.o) (fun hHeld=>?_);clear hK K
     try simp only [Act.put,MT,M0,M1]
     refine takeA (i:=3) ?_
     try simp only [Act.put,MT,M0,M1]
     refine takeA (i:=4) ?_
     try simp only [Act.put,MT,M0,M1]
     refine takeA (i:=5) ?_
     try simp only [Act.put,MT,M0,M1]
     refine wpAnyH_ready (rs:=[6]) (by kernel_rfl) (by simp) ?_;refine consL rfl (fun K hK=>?_) AllReadyH.nil;go_simp
     try clear hHeld
     refine hK.out _ _ (HB3.o.alloc HB3.o.size _) (fun hHeld=>?_);clear hK K
     try simp only [Act.put,MT,M0,M1]
     generalize hg:w103.heap.size=g7;have hge7:w5.heap.size≤g7:=by have:=HB3.o.size;omega
     refine wpAnyH_letter (fun wz=>Blk wz g7 37 [.bool false,.slice none 0 0,.slice none 0 0]∧Below w5.heap.size w5 wz∧RF wz b3 A3 n3 c3 B3 m3 d3 ((P / q:Nat):Int) 1 (2 * m+400)) ⟨Blk.made _ 37 _ _ _ hg.symm rfl,HB3.o.alloc HB3.o.size _,RQ3.o.below ((Below.refl w103.heap.size w103).alloc ql (.cells #[.bool false,.slice none 0 0,.slice none 0 0] 37)) ql⟩ ?_;clear hg;rintro w107 ⟨x0,x1,x2⟩;have D7:=qh x0;have HB7:=qh x1;have RQ7:=qh x2;clear x0 x1 x2;refine wpAnyH_ready (rs:=[7]) (by kernel_rfl) (by simp) ?_;refine consL rfl (fun K hK=>?_) AllReadyH.nil;obtain ⟨k0,k1,k2,f0,f1,f2⟩:=D7.o.cf3;go_simp;have hd:Hold w107 g7 37 3 w107:=Hold.start D7.o (by simp [No32]);have hf:=qh (hd.fill3 (.bool b3) (.slice A3 n3 c3) (.slice B3 m3 d3));have T:∀ {A0:Option Addr} {m0 c0 k0:Nat},SN w107 A0 m0 c0 k0→SN (((w107.setCell ⟨g7,0,none⟩ (.bool b3)).setCell ⟨g7,1,none⟩ (.slice A3 n3 c3)).setCell ⟨g7,2,none⟩ (.slice B3 m3 d3)) A0 m0 c0 k0:=fun hs=>((hs.hset hd 0 (.bool b3)).hset (hd.set 0 (.bool b3) (by simp)) 1 (.slice A3 n3 c3)).hset ((hd.set 0 (.bool b3) (by simp)).set 1 (.slice A3 n3 c3) (by simp)) 2 (.slice B3 m3 d3);have RM:=qh (RQ7.o.map T);clear T hd;clear k0 k1 k2 f0 f1 f2
     try clear hHeld
     refine hK.out _ _ (below_set (below_set (below_set HB7.o g7 0 hge7 _) g7 1 hge7 _) g7 2 hge7 _) (fun hHeld=>?_);clear hK K
     try simp only [Act.put,MT,M0,M1]
     refine wpAnyH_letter (fun wz=>Blk wz g7 37 [.bool b3,.slice A3 n3 c3,.slice B3 m3 d3]∧RF wz b3 A3 n3 c3 B3 m3 d3 ((P / q:Nat):Int) 1 (2 * m+400)∧Below w5.heap.size w5 wz) ⟨hf.out,RM.o,hHeld⟩ ?_;clear hf RM hHeld;rintro w108 ⟨x0,x1,x2⟩;have D8:=qh x0;have RQ8:=qh x1;have HB8:=qh x2;clear x0 x1 x2;refine takeA (i:=8) ?_
     try simp only [Act.put,MT,M0,M1]
     refine wpAnyH_done (by kernel_rfl) ?_ _;go_wp2_with fail;go_meet
     exact ⟨g7,rfl,_,_,_,_,_,_,_,hge7,D8.o,RQ8.o,HB8.o⟩
    refine consL rfl (fun K hK=>?_) AllReadyH.nil;go_simp
    try clear hHeld
    refine hK.out _ _ (HB2.o.alloc HB2.o.size _) (fun hHeld=>?_);clear hK K
    try simp only [Act.put,MT,M0,M1]
    generalize hg:w102.heap.size=g10;have hge10:w5.heap.size≤g10:=by have:=HB2.o.size;omega
    refine wpAnyH_letter (fun wz=>Blk wz g10 37 [.bool false,.slice none 0 0,.slice none 0 0]∧Below w5.heap.size w5 wz∧SN wz A2 n2 c2 1) ⟨Blk.made _ 37 _ _ _ hg.symm rfl,HB2.o.alloc HB2.o.size _,RN2.o.below ((Below.refl w102.heap.size w102).alloc ql (.cells #[.bool false,.slice none 0 0,.slice none 0 0] 37)) ql⟩ ?_;clear hg;rintro w110 ⟨x0,x1,x2⟩;have D10:=qh x0;have HB10:=qh x1;have RN10:=qh x2;clear x0 x1 x2;refine wpAnyH_ready (rs:=[2]) (by kernel_rfl) (by simp) ?_;refine consL rfl (fun K hK=>?_) AllReadyH.nil;go_simp;refine (rat_Of _ b4 A4 A2 n4 c4 n2 c2 ((P / q:Nat):Int) 1 (2 * m+400) (R4.o.below HB10.o ql) RN10.o (by omega) (by rw [Int.natAbs_natCast];exact FL.o) (Nat.one_lt_two_pow (by omega)) (by have:=HM2.o;omega)).mono ?_;rintro e w111 ⟨⟨b11,A11,n11,c11,B11,m11,d11,rfl,r⟩,hb⟩;have HB11:=qh (below_on HB10.o ql hb);have RQ11:=qh r;have D11:=qh (D10.o.below hb D10.o.lt);clear r hb;dsimp only
    try clear hHeld
    refine hK.out _ _ (HB11.o) (fun hHeld=>?_);clear hK K
    try simp only [Act.put,MT,M0,M1]
    refine takeA (i:=3) ?_
    try simp only [Act.put,MT,M0,M1]
    refine takeA (i:=4) ?_
    try simp only [Act.put,MT,M0,M1]
    refine takeA (i:=5) ?_
    try simp only [Act.put,MT,M0,M1]
    refine wpAnyH_ready (rs:=[7]) (by kernel_rfl) (by simp) ?_;refine consL rfl (fun K hK=>?_) AllReadyH.nil;obtain ⟨k0,k1,k2,f0,f1,f2⟩:=D11.o.cf3;go_simp;have hd:Hold w111 g10 37 3 w111:=Hold.start D11.o (by simp [No32]);have hf:=qh (hd.fill3 (.bool b11) (.slice A11 n11 c11) (.slice B11 m11 d11));have T:∀ {A0:Option Addr} {m0 c0 k0:Nat},SN w111 A0 m0 c0 k0→SN (((w111.setCell ⟨g10,0,none⟩ (.bool b11)).setCell ⟨g10,1,none⟩ (.slice A11 n11 c11)).setCell ⟨g10,2,none⟩ (.slice B11 m11 d11)) A0 m0 c0 k0:=fun hs=>((hs.hset hd 0 (.bool b11)).hset (hd.set 0 (.bool b11) (by simp)) 1 (.slice A11 n11 c11)).hset ((hd.set 0 (.bool b11) (by simp)).set 1 (.slice A11 n11 c11) (by simp)) 2 (.slice B11 m11 d11);have RM:=qh (RQ11.o.map T);clear T hd;clear k0 k1 k2 f0 f1 f2
    try clear hHeld
    refine hK.out _ _ (below_set (below_set (below_set HB11.o g10 0 hge10 _) g10 1 hge10 _) g10 2 hge10 _) (fun hHeld=>?_);clear hK K
    try simp only [Act.put,MT,M0,M1]
    refine wpAnyH_letter (fun wz=>Blk wz g10 37 [.bool b11,.slice A11 n11 c11,.slice B11 m11 d11]∧RF wz b11 A11 n11 c11 B11 m11 d11 ((P / q:Nat):Int) 1 (2 * m+400)∧Below w5.heap.size w5 wz) ⟨hf.out,RM.o,hHeld⟩ ?_;clear hf RM hHeld;rintro w115 ⟨x0,x1,x2⟩;have D15:=qh x0;have RQ15:=qh x1;have HB15:=qh x2;clear x0 x1 x2;refine takeA (i:=8) ?_
    try simp only [Act.put,MT,M0,M1]
    refine wpAnyH_done (by kernel_rfl) ?_ _;go_wp2_with fail;go_meet
    exact ⟨g10,rfl,_,_,_,_,_,_,_,hge10,D15.o,RQ15.o,HB15.o⟩
   refine consL rfl (fun K hK=>?_) AllReadyH.nil;go_simp
   try clear hHeld
   refine hK.out _ _ (HB6.o.alloc HB6.o.size _) (fun hHeld=>?_);clear hK K
   try simp only [Act.put,MT,M0,M1]
   generalize hg:w6.heap.size=g17;have hge17:w5.heap.size≤g17:=by have:=HB6.o.size;omega
   refine wpAnyH_letter (fun wz=>Blk wz g17 37 [.bool false,.slice none 0 0,.slice none 0 0]∧Below w5.heap.size w5 wz) ⟨Blk.made _ 37 _ _ _ hg.symm rfl,HB6.o.alloc HB6.o.size _⟩ ?_;clear hg;rintro w117 ⟨x0,x1⟩;have D17:=qh x0;have HB17:=qh x1;clear x0 x1;refine wpAnyH_ready (rs:=[1]) (by kernel_rfl) (by simp) ?_;refine consL rfl (fun K hK=>?_) AllReadyH.nil;go_simp;refine (natOf _ 1 (by omega)).mono ?_;rintro e w118 ⟨⟨A18,n18,c18,rfl,r⟩,hb⟩;have HB18:=qh (below_on HB17.o ql hb);have RN18:=qh r;have D18:=qh (D17.o.below hb D17.o.lt);clear r hb;dsimp only
   try clear hHeld
   refine hK.out _ _ (HB18.o) (fun hHeld=>?_);clear hK K
   try simp only [Act.put,MT,M0,M1]
   refine wpAnyH_ready (rs:=[2]) (by kernel_rfl) (by simp) ?_;refine consL rfl (fun K hK=>?_) AllReadyH.nil;go_simp;refine (rat_Of _ b4 A4 A18 n4 c4 n18 c18 ((P / q:Nat):Int) 1 (2 * m+400) (R4.o.below HB18.o ql) RN18.o (by omega) (by rw [Int.natAbs_natCast];exact FL.o) (Nat.one_lt_two_pow (by omega)) (by have:=HM2.o;omega)).mono ?_;rintro e w119 ⟨⟨b19,A19,n19,c19,B19,m19,d19,rfl,r⟩,hb⟩;have HB19:=qh (below_on HB18.o ql hb);have RQ19:=qh r;have D19:=qh (D18.o.below hb D18.o.lt);clear r hb;dsimp only
   try clear hHeld
   refine hK.out _ _ (HB19.o) (fun hHeld=>?_);clear hK K
   try simp only [Act.put,MT,M0,M1]
   refine takeA (i:=3) ?_
   try simp only [Act.put,MT,M0,M1]
   refine takeA (i:=4) ?_
   try simp only [Act.put,MT,M0,M1]
   refine takeA (i:=5) ?_
   try simp only [Act.put,MT,M0,M1]
   refine wpAnyH_ready (rs:=[7]) (by kernel_rfl) (by simp) ?_;refine consL rfl (fun K hK=>?_) AllReadyH.nil;obtain ⟨k0,k1,k2,f0,f1,f2⟩:=D19.o.cf3;go_simp;have hd:Hold w119 g17 37 3 w119:=Hold.start D19.o (by simp [No32]);have hf:=qh (hd.fill3 (.bool b19) (.slice A19 n19 c19) (.slice B19 m19 d19));have T:∀ {A0:Option Addr} {m0 c0 k0:Nat},SN w119 A0 m0 c0 k0→SN (((w119.setCell ⟨g17,0,none⟩ (.bool b19)).setCell ⟨g17,1,none⟩ (.slice A19 n19 c19)).setCell ⟨g17,2,none⟩ (.slice B19 m19 d19)) A0 m0 c0 k0:=fun hs=>((hs.hset hd 0 (.bool b19)).hset (hd.set 0 (.bool b19) (by simp)) 1 (.slice A19 n19 c19)).hset ((hd.set 0 (.bool b19) (by simp)).set 1 (.slice A19 n19 c19) (by simp)) 2 (.slice B19 m19 d19);have RM:=qh (RQ19.o.map T);clear T hd;clear k0 k1 k2 f0 f1 f2
   try clear hHeld
   refine hK.out _ _ (below_set (below_set (below_set HB19.o g17 0 hge17 _) g17 1 hge17 _) g17 2 hge17 _) (fun hHeld=>?_);clear hK K
   try simp only [Act.put,MT,M0,M1]
   refine wpAnyH_letter (fun wz=>Blk wz g17 37 [.bool b19,.slice A19 n19 c19,.slice B19 m19 d19]∧RF wz b19 A19 n19 c19 B19 m19 d19 ((P / q:Nat):Int) 1 (2 * m+400)∧Below w5.heap.size w5 wz) ⟨hf.out,RM.o,hHeld⟩ ?_;clear hf RM hHeld;rintro w123 ⟨x0,x1,x2⟩;have D23:=qh x0;have RQ23:=qh x1;have HB23:=qh x2;clear x0 x1 x2;refine takeA (i:=8) ?_
   try simp only [Act.put,MT,M0,M1]
   refine wpAnyH_done (by kernel_rfl) ?_ _;go_wp2_with fail;go_meet
   exact ⟨g17,rfl,_,_,_,_,_,_,_,hge17,D23.o,RQ23.o,HB23.o⟩
  case rest =>
   obtain ⟨g12,rfl,b7,A7,n7,c7,B7,m7,d7,hg12,d12,r7,hb7⟩:=hcut;have D12:=qh d12;have R7:=qh r7;have HB7:=qh hb7;have E0:=qh (D0.o.below hb7 D0.o.lt);have E5:=qh (D5.o.below hb7 D5.o.lt);have R8:=qh (R3.o.below hb7 ql);have HB8:=qt HB5 hb7;clear d12 r7 hb7 D0 D5 D11 R3 R4 HB5 HF HB7 FL;obtain ⟨k5,k6,k7⟩:=E5.o.c3;obtain ⟨j0,j1,j2⟩:=D12.o.c3;have hq0:0<q:=by obtain ⟨p',q',h1,-⟩:=R8.o.ex;exact h1
   have HQ0:=qh hq0;clear hq0;go_step;go_wp2_with fail;refine (rat_Cmp _ b7 b3 A7 B7 A3' B3 n7 c7 m7 d7 n3' c3' m3 d3 ((P / q:Nat):Int) (P:Int) 1 q (2 * m+400) (2 * m+400) R7.o R8.o (by have:=HM2.o;omega) (by have:=HM2.o;omega)).mono ?_;rintro e w8 ⟨rfl,hb8⟩
   have hsg:(((((P / q:Nat):Int) * (q:Int)+-(P:Int) * ((1:Nat):Int)).sign == 0)=decide (P % q=0)):=by
    rw [Bool.eq_iff_iff,beq_iff_eq,Int.sign_eq_zero_iff_zero,decide_eq_true_eq];have h:=Nat.div_add_mod P q;have h2:(((P / q:Nat):Int) * (q:Int))=((P / q * q:Nat):Int):=by push_cast;rfl
    have h3:P / q * q=q * (P / q):=Nat.mul_comm _ _;omega
   generalize (((P / q:Nat):Int) * (q:Int)+-(P:Int) * ((1:Nat):Int)).sign=z at *
   have F0:=qh (E0.o.below hb8 E0.o.lt);have F5:=qh (E5.o.below hb8 E5.o.lt);have S8:=qh (R8.o.below hb8 ql);have HB9:=qt HB8 hb8;clear k5 k6 k7 j0 j1 j2 E0 E5 R8 HB8 D12 R7 hb8;obtain ⟨-,-,i2,i3,i4⟩:=F0.o.c5;dsimp only;by_cases hq:P % q=0
   ·have hz:(z == 0)=true:=by rw [hsg];simpa using hq
    have HQ:=qh hq;clear hsg hq;have FN:Hid (frn=fs.length):=IL.len HFR.o;obtain rfl:frn=fs.length:=FN.o;have hfl:(fs.length:Int)≤1000000000:=by have:=HL2.o;omega
    go_wp2_with fail;go_loopw [14,66] (fun s14 s66 wr=>∃ k:Nat,k≤fs.length∧s66=.int .i64 k∧s14=.bool (anyE P q ((fs.zip ts).take k))∧Below w8.heap.size w8 wr) (fun _ i _=>fs.length - (intOf i).toNat)
    case atStart=>exact ⟨0,Nat.zero_le _,rfl,rfl,Below.refl _ _⟩
    case round =>
     obtain ⟨kk,hk,rfl,rfl,hbr⟩:=hrel;have X0:=qh (F0.o.below hbr F0.o.lt);have X5:=qh (F5.o.below hbr F5.o.lt);have Y8:=qh (S8.o.below hbr ql);have HBW:=qt HB9 hbr;have HBR:=qh hbr;obtain ⟨-,-,i2,i3⟩:=X0.o.c4;clear hbr;by_cases hlt:kk<fs.length
     ·obtain ⟨fb,fo,hfa,hfc⟩:=IL.at (HFR.o.below HBW.o ql) (by omega);obtain ⟨tb,tq,hta,htc⟩:=IL.at (HTO.o.below HBW.o ql) (by have:=HL.o;omega);have htn:=IL.len HTO.o;subst hfa;subst hta;obtain rfl:ton=fs.length:=by rw [htn];exact HL.o.symm
      obtain ⟨f,hf⟩:∃ f,fs[kk]?=some f:=⟨fs[kk],List.getElem?_eq_getElem hlt⟩;obtain ⟨t',ht'⟩:∃ t,ts[kk]?=some t:=⟨ts[kk]'(by have:=HL.o;omega),List.getElem?_eq_getElem _⟩;have cf:=hfc kk f hf;have ct:=htc kk t' ht';have HTX:=qh (anyE_next (P:=P) (q:=q) hf ht');have hfl2:=HFB.o f (List.mem_of_getElem? hf);have htl2:=HTB.o t' (List.mem_of_getElem? ht');have CT:=qh ct
      have HF:Hid (∀ w',Below wr.heap.size wr w'→w'.cell? ⟨g,0,none⟩=some (.bool b3)∧w'.cell? ⟨g,1,none⟩=some (.slice A3' n3' c3')∧w'.cell? ⟨g,2,none⟩=some (.slice B3 m3 d3)∧w'.cell? ⟨w.heap.size,4,none⟩=some (.slice (some ⟨tb,tq,none⟩) fs.length toc)∧w'.cell? ⟨tb,tq+kk,none⟩=some (.int .i64 (t':Int))):=by
       have z0:=X0.o.lt;have z5:=X5.o.lt;have zt:=World.block_lt_of_cell? wr _ ct;intro w' h;exact ⟨(h.cell (by simp;omega)).trans (X5.o.cell 0),(h.cell (by simp;omega)).trans (X5.o.cell 1),(h.cell (by simp;omega)).trans (X5.o.cell 2),(h.cell (by simp;omega)).trans (X0.o.cell 4),(h.cell zt).trans CT.o⟩
      clear hfc htc hf ht' ct htn;have hkI:(kk:Int)<(fs.length:Int):=by omega
      have hk0:(0:Int)≤(kk:Int):=by omega
      by_cases hin:anyE P q ((fs.zip ts).take kk)=true
      ·rw [hin];have HIN:=qh hin;clear hin;go_wp2_with fail;refine wp_region_held_drew (S:=fun w'=>Below wr.heap.size wr w') (by kernel_rfl) (Below.refl _ _).drew (fun hHeld=>?_);refine wpAnyH_letter (fun w'=>Below wr.heap.size wr w') hHeld ?_;rintro w6 hb6;have HB6:=qh hb6;clear hb6 hHeld;refine takeA (i:=0) ?_
       try simp only [Act.put,MT,M0,M1]
       refine takeA (i:=1) ?_
       try simp only [Act.put,MT,M0,M1]
       refine takeN (i:=2) ?_
       try simp only [Act.put,MT,M0,M1]
       refine takeN (i:=3) ?_
       try simp only [Act.put,MT,M0,M1]
       refine takeN (i:=4) ?_
       try simp only [Act.put,MT,M0,M1]
       refine takeN (i:=5) ?_
       try simp only [Act.put,MT,M0,M1]
       refine takeN (i:=6) ?_
       try simp only [Act.put,MT,M0,M1]
       refine takeN (i:=7) ?_
       try simp only [Act.put,MT,M0,M1]
       refine takeN (i:=8) ?_
       try simp only [Act.put,MT,M0,M1]
       refine takeN (i:=9) ?_
       try simp only [Act.put,MT,M0,M1]
       refine takeN (i:=10) ?_
       try simp only [Act.put,MT,M0,M1]
       refine takeN (i:=11) ?_
       try simp only [Act.put,MT,M0,M1]
       refine takeN (i:=12) ?_
       try simp only [Act.put,MT,M0,M1]
       refine takeN (i:=13) ?_
       try simp only [Act.put,MT,M0,M1]
       refine takeN (i:=14) ?_
       try simp only [Act.put,MT,M0,M1]
       refine takeN (i:=15) ?_
       try simp only [Act.put,MT,M0,M1]
       refine takeN (i:=16) ?_
       try simp only [Act.put,MT,M0,M1]
       refine takeN (i:=17) ?_
       try simp only [Act.put,MT,M0,M1]
       refine takeA (i:=18) ?_
       try simp only [Act.put,MT,M0,M1]
       refine takeA (i:=19) ?_
       try simp only [Act.put,MT,M0,M1]
       refine wpAnyH_done (by kernel_rfl) ?_ _;have HBZ:=qh (HBR.o.trans (HB6.o.mono HBR.o.size));go_wp2_with fail;go_roundw
       case rel =>
        refine ⟨kk+1,by omega,by go_num,?_,HBZ.o⟩;rw [HTX.o,HIN.o];rfl
       case measure=>simp [intOf];omega
      ·have hin':anyE P q ((fs.zip ts).take kk)=false:=by simpa using hin
       rw [hin'];have HIN:=qh hin';clear hin hin';by_cases hc1:f * q≤P
       ·have HC1:=qh hc1;clear hc1;go_wp2_with fail;refine wp_region_held_drew (S:=fun w'=>Below wr.heap.size wr w') (by kernel_rfl) (Below.refl _ _).drew (fun hHeld=>?_);refine wpAnyH_letter (fun w'=>Below wr.heap.size wr w') hHeld ?_;rintro w6 hb6;have HB6:=qh hb6;clear hb6 hHeld;refine takeA (i:=0) ?_
        try simp only [Act.put,MT,M0,M1]
        refine takeA (i:=1) ?_
        try simp only [Act.put,MT,M0,M1]
        refine takeA (i:=2) ?_
        try simp only [Act.put,MT,M0,M1]
        refine takeA (i:=4) ?_
        try simp only [Act.put,MT,M0,M1]
        refine wpAnyH_ready (rs:=[3]) (by kernel_rfl) (by simp) ?_;refine consL rfl (fun K hK=>?_) AllReadyH.nil;go_simp;refine (rat_Int _ f (by omega)).mono ?_;rintro e w169 ⟨⟨b69,A69,n69,c69,B69,m69,d69,rfl,r⟩,hb⟩;have HB69:=qh (below_on HB6.o ql hb);have RI69:=qh r;clear r hb;dsimp only
        try clear hHeld
        refine hK.out _ _ (HB69.o) (fun hHeld=>?_);clear hK K
        try simp only [Act.put,MT,M0,M1]
        refine wpAnyH_ready (rs:=[5]) (by kernel_rfl) (by simp) ?_;refine consL rfl (fun K hK=>?_) AllReadyH.nil;go_simp;refine (rat_Cmp _ b69 b3 A69 B69 A3' B3 n69 c69 m69 d69 n3' c3' m3 d3 (f:Int) (P:Int) 1 q 63 (2 * m+400) RI69.o (Y8.o.below HB69.o ql) (by omega) (by have:=HM2.o;omega)).mono ?_;rintro e w170 ⟨rfl,hb⟩;have HB70:=qh (below_on HB69.o ql hb);have hs70:=sign_low f P q;rw [decide_eq_true HC1.o] at hs70;generalize (((f:Int) * (q:Int)+-(P:Int) * ((1:Nat):Int)).sign)=z70 at *
        clear hb;dsimp only
        try clear hHeld
        refine hK.out _ _ (HB70.o) (fun hHeld=>?_);clear hK K
        try simp only [Act.put,MT,M0,M1]
        refine takeA (i:=6) ?_
        try simp only [Act.put,MT,M0,M1]
        refine takeA (i:=7) ?_
        try simp only [Act.put,MT,M0,M1]
        refine takeA (i:=8) ?_
        try simp only [Act.put,MT,M0,M1]
        refine takeA (i:=9) ?_
        try simp only [Act.put,MT,M0,M1]
        refine takeA (i:=10) ?_
        try simp only [Act.put,MT,M0,M1]
        refine takeA (i:=11) ?_
        try simp only [Act.put,MT,M0,M1]
        refine takeA (i:=12) ?_
        try simp only [Act.put,MT,M0,M1]
        refine takeA (i:=13) ?_
        try simp only [Act.put,MT,M0,M1]
        refine wpAnyH_ready (rs:=[14]) (by kernel_rfl) (by simp) ?_;refine consL rfl (fun K hK=>?_) AllReadyH.nil;go_simp;refine (rat_Int _ t' (by omega)).mono ?_;rintro e w179 ⟨⟨b79,A79,n79,c79,B79,m79,d79,rfl,r⟩,hb⟩;have HB79:=qh (below_on HB70.o ql hb);have RI79:=qh r;clear r hb;dsimp only
        try clear hHeld
        refine hK.out _ _ (HB79.o) (fun hHeld=>?_);clear hK K
        try simp only [Act.put,MT,M0,M1]
        refine wpAnyH_ready (rs:=[15]) (by kernel_rfl) (by simp) ?_;refine consL rfl (fun K hK=>?_) AllReadyH.nil;go_simp;refine (rat_Cmp _ b3 b79 A3' B3 A79 B79 n3' c3' m3 d3 n79 c79 m79 d79 (P:Int) (t':Int) q 1 (2 * m+400) 63 (Y8.o.below HB79.o ql) RI79.o (by have:=HM2.o;omega) (by omega)).mono ?_;rintro e w180 ⟨rfl,hb⟩;have HB80:=qh (below_on HB79.o ql hb);have hs80:=sign_high t' P q;generalize (((P:Int) * ((1:Nat):Int)+-(t':Int) * (q:Int)).sign)=z80 at *
        clear hb;dsimp only
        try clear hHeld
        refine hK.out _ _ (HB80.o) (fun hHeld=>?_);clear hK K
        try simp only [Act.put,MT,M0,M1]
        refine takeA (i:=16) ?_
        try simp only [Act.put,MT,M0,M1]
        refine takeA (i:=17) ?_
        try simp only [Act.put,MT,M0,M1]
        refine takeA (i:=18) ?_
        try simp only [Act.put,MT,M0,M1]
        refine takeA (i:=19) ?_
        try simp only [Act.put,MT,M0,M1]
        refine wpAnyH_done (by kernel_rfl) ?_ _;have HBZ:=qh (HBR.o.trans (HB80.o.mono HBR.o.size));go_wp2_with fail;go_roundw
        case rel =>
         refine ⟨kk+1,by omega,by go_num,?_,HBZ.o⟩;rw [HTX.o,HIN.o,decide_eq_true HC1.o];simp
        case measure=>simp [intOf];omega
       ·have HC1:=qh hc1;clear hc1;go_wp2_with fail;refine wp_region_held_drew (S:=fun w'=>Below wr.heap.size wr w') (by kernel_rfl) (Below.refl _ _).drew (fun hHeld=>?_);refine wpAnyH_letter (fun w'=>Below wr.heap.size wr w') hHeld ?_;rintro w6 hb6;have HB6:=qh hb6;clear hb6 hHeld;refine takeA (i:=0) ?_
        try simp only [Act.put,MT,M0,M1]
        refine takeA (i:=1) ?_
        try simp only [Act.put,MT,M0,M1]
        refine takeA (i:=2) ?_
        try simp only [Act.put,MT,M0,M1]
        refine takeA (i:=4) ?_
        try simp only [Act.put,MT,M0,M1]
        refine wpAnyH_ready (rs:=[3]) (by kernel_rfl) (by simp) ?_;refine consL rfl (fun K hK=>?_) AllReadyH.nil;go_simp;refine (rat_Int _ f (by omega)).mono ?_;rintro e w149 ⟨⟨b49,A49,n49,c49,B49,m49,d49,rfl,r⟩,hb⟩;have HB49:=qh (below_on HB6.o ql hb);have RI49:=qh r;clear r hb;dsimp only
        try clear hHeld
        refine hK.out _ _ (HB49.o) (fun hHeld=>?_);clear hK K
        try simp only [Act.put,MT,M0,M1]
        refine wpAnyH_ready (rs:=[5]) (by kernel_rfl) (by simp) ?_;refine consL rfl (fun K hK=>?_) AllReadyH.nil;go_simp;refine (rat_Cmp _ b49 b3 A49 B49 A3' B3 n49 c49 m49 d49 n3' c3' m3 d3 (f:Int) (P:Int) 1 q 63 (2 * m+400) RI49.o (Y8.o.below HB49.o ql) (by omega) (by have:=HM2.o;omega)).mono ?_;rintro e w150 ⟨rfl,hb⟩;have HB50:=qh (below_on HB49.o ql hb);have hs50:=sign_low f P q;rw [decide_eq_false HC1.o] at hs50;generalize (((f:Int) * (q:Int)+-(P:Int) * ((1:Nat):Int)).sign)=z50 at *
        clear hb;dsimp only
        try clear hHeld
        refine hK.out _ _ (HB50.o) (fun hHeld=>?_);clear hK K
        try simp only [Act.put,MT,M0,M1]
        refine takeA (i:=6) ?_
        try simp only [Act.put,MT,M0,M1]
        refine takeA (i:=7) ?_
        try simp only [Act.put,MT,M0,M1]
        refine takeN (i:=8) ?_
        try simp only [Act.put,MT,M0,M1]
        refine takeN (i:=9) ?_
        try simp only [Act.put,MT,M0,M1]
        refine takeN (i:=10) ?_
        try simp only [Act.put,MT,M0,M1]
        refine takeN (i:=11) ?_
        try simp only [Act.put,MT,M0,M1]
        refine takeN (i:=12) ?_
        try simp only [Act.put,MT,M0,M1]
        refine takeN (i:=13) ?_
        try simp only [Act.put,MT,M0,M1]
        refine takeN (i:=14) ?_
        try simp only [Act.put,MT,M0,M1]
        refine takeN (i:=15) ?_
        try simp only [Act.put,MT,M0,M1]
        refine takeN (i:=16) ?_
        try simp only [Act.put,MT,M0,M1]
        refine takeA (i:=17) ?_
        try simp only [Act.put,MT,M0,M1]
        refine takeA (i:=18) ?_
        try simp only [Act.put,MT,M0,M1]
        refine takeA (i:=19) ?_
        try simp only [Act.put,MT,M0,M1]
        refine wpAnyH_done (by kernel_rfl) ?_ _;have HBZ:=qh (HBR.o.trans (HB50.o.mono HBR.o.size));go_wp2_with fail;go_roundw
        case rel =>
         refine ⟨kk+1,by omega,by go_num,?_,HBZ.o⟩;rw [HTX.o,HIN.o,decide_eq_false HC1.o];rfl
        case measure=>simp [intOf];omega
     ·have hk2:kk=fs.length:=by omega
      subst hk2;have hkI:¬ (fs.length:Int)<(fs.length:Int):=by omega
      go_wp2_with fail;go_ret
      refine ⟨?_,HBW.o⟩;rw [HPV.o,HQV.o];unfold condHolds;rw [← HP.o];have hz2:(fs.zip ts).take fs.length=fs.zip ts:=List.take_of_length_le (by simp;omega);rw [hz2];simp only [HQ.o,decide_true,Bool.true_and]
      rfl
   ·have hz:(z == 0)=false:=by rw [hsg];simpa using hq
    have HQ:=qh hq;clear hsg hq;go_wp2_with fail;go_ret
    refine ⟨?_,HB9.o⟩;rw [HPV.o,HQV.o];unfold condHolds;rw [← HP.o];simp [HQ.o]
end Go.Proofs.YtdgleeglndcjhaaGreatDoor
