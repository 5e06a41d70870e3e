import Derived.Test.YtdgleeglndcjhaaGreatDoorX10
set_option linter.unusedSimpArgs false
set_option linter.unusedVariables false
set_option maxHeartbeats 32000000
set_option maxRecDepth 100000
namespace Go.Proofs.YtdgleeglndcjhaaGreatDoor
open Go.RowKit
theorem up_cell {W w:World} {gm b o:Nat} {u:Value} (hg:W.grownBy w (some gm)) (hnc:∀ o,W.cell? ⟨gm,o,none⟩=none) (h:W.cell? ⟨b,o,none⟩=some u):w.cell? ⟨b,o,none⟩=some u :=
 (hg.cell_far ⟨b,o,none⟩ (World.block_lt_of_cell? W _ h) (fun e=>by
  have e':b=gm:=by simpa using e
  rw [e',hnc] at h;cases h)).trans h
theorem StrsAre.up {W w:World} {gm:Nat} {A:Option Addr} {n c:Nat} {ws:List Bs} (h:StrsAre W A n c ws) (hg:W.grownBy w (some gm)) (hnc:∀ o,W.cell? ⟨gm,o,none⟩=none):StrsAre w A n c ws:=by
 obtain ⟨A',c',h1,h2,h3,h4⟩:=h;refine ⟨A',c',h1,h2,h3,fun hp=>?_⟩;obtain ⟨b,o,h5,h6⟩:=h4 hp;exact ⟨b,o,h5,fun j x hx=>up_cell hg hnc (h6 j x hx)⟩
theorem StrsAre.tail {w:World} {b o n c:Nat} {ws:List Bs} (h:StrsAre w (some ⟨b,o,none⟩) n c ws) (k:Nat) (hk:k≤ws.length):StrsAre w (some ⟨b,o+k,none⟩) (ws.length - k) (c - k) (ws.drop k):=by
 obtain ⟨A',c',h1,h2,h3,h4⟩:=h;obtain ⟨rfl,rfl,rfl⟩:=Value.slice.inj h1;refine ⟨some ⟨b,o+k,none⟩,c - k,by rw [List.length_drop],by rw [List.length_drop];omega,by simp,fun hp=>⟨b,o+k,rfl,fun j x hx=>?_⟩⟩;obtain ⟨b',o',e,h6⟩:=h4 (by simp at hp ⊢;omega);cases e
 have:=h6 (k+j) x (by simpa [List.getElem?_map,List.getElem?_drop] using hx);rw [← Nat.add_assoc] at this;exact this
theorem PlI.at {W w:World} {gm n:Nat} {f:Bs→Value} {es:Bs→List Pe} (h:PlI W w gm n f es) (k:Bs) {A:Option Addr} {m c:Nat} (hv:f k=.slice A m c) (h0:0<(es k).length) :
  ∃ b o,A=some ⟨b,o,none⟩∧∀ (j:Nat) (e:Pe),(es k)[j]?=some e→∃ RA rn rc,RuleIs w RA rn rc e.2.2∧w.cell? ⟨b,o+j * 2,none⟩=some (.string ⟨e.1.toArray⟩)∧w.cell? ⟨b,o+j * 2+1,none⟩=some (.slice RA rn rc):=by
 obtain ⟨A',c',h1,h2,h3,h4⟩:=SlC.own (h.row k);rw [hv] at h1;obtain ⟨rfl,rfl,rfl⟩:=Value.slice.inj h1;obtain ⟨b,o,h6,h7⟩:=h4 (by rw [cells2_len,List.length_map];omega);refine ⟨b,o,h6,fun j e he=>?_⟩;obtain ⟨RA,rn,rc,e1,hR⟩:=(h.rule k e (List.mem_of_getElem? he)).is;have hc:=cells2_at ((es k).map pcell) j (pcell e) (by rw [List.getElem?_map,he];rfl);refine ⟨RA,rn,rc,hR,h7 _ _ hc.1,?_⟩;have:=h7 _ _ hc.2;rw [← Nat.add_assoc] at this;rw [this];simp [pcell,e1]
abbrev PMap:=Bs→List (Bs × Rl)
def wOther:Bs:=[111,116,104,101,114]
def rowCode (m:PMap) (ws:List Bs):Nat × Rl :=
 if ws.length<3 then (2,[]) else
 if langP (ws.getD 0 [])=false then (2,[]) else
 if catP (ws.getD 1 [])=false then (2,[]) else
 if ws.getD 1 []=wOther then (2,[]) else
 if (parseR (Lib.join (ws.drop 2) [32])).1≠0 then ((parseR (Lib.join (ws.drop 2) [32])).1,[]) else
 if (m (ws.getD 0 [])).any (fun e=>decide (e.1=ws.getD 1 []))=true then (10,[]) else
 (0,(parseR (Lib.join (ws.drop 2) [32])).2)
def rowPut (m:PMap) (ws:List Bs):PMap:=fun k=>if k=ws.getD 0 [] then m k ++ [(ws.getD 1 [],(rowCode m ws).2)] else m k
def contents (es:Bs→List Pe):PMap:=fun k=>(es k).map prow
def RowPost (W w:World) (gm n:Nat) (f:Bs→Value) (es:Bs→List Pe) (ws:List Bs) (e:Ending) (w':World):Prop :=
 e=.returned (.int .i64 ((rowCode (contents es) ws).1:Nat))∧((rowCode (contents es) ws).1≠0→PlI W w' gm n f es∧Below w.heap.size w w')∧((rowCode (contents es) ws).1=0→∃ f' es',PlI W w' gm (n+1) f' es'∧contents es'=rowPut (contents es) ws)
theorem RowPost.bad {W w w':World} {gm n:Nat} {f:Bs→Value} {es:Bs→List Pe} {ws:List Bs} {k:Nat} (hc:(rowCode (contents es) ws).1=k) (hk:k≠0) (h:PlI W w gm n f es) (hb:Below w.heap.size w w'):RowPost W w gm n f es ws (.returned (.int .i64 (k:Nat))) w' :=
 ⟨by rw [hc],fun _=>⟨h.below hb,hb⟩,fun h0=>absurd (hc.symm.trans h0) hk⟩
theorem Tryz_info130:(Tryz.prog.info? 130).map (fun i=>(i.zero,i.size,i.bytes))=some (some (.agg #[.string ByteArray.empty,.slice none 0 0]),2,40):=by kernel_rfl
theorem plural_row (W w:World) (gp gm n0:Nat) (f:Bs→Value) (es:Bs→List Pe) (A:Option Addr) (n c:Nat) (ws:List Bs) (hG:GW w) (hI:PlI W w gm n0 f es) (hnc:∀ o,W.cell? ⟨gm,o,none⟩=none)
  (hp:W.cell? ⟨gp,0,none⟩=some (.map (some gm))) (hS:StrsAre W A n c ws) (hl:ws.length≤1000) (hm:∀ t ∈ ws,t.length≤100000) (hn:n0≤1000) :
  Calls Tryz.prog 71 #[.pointer (some ⟨gp,0,none⟩),.slice A n c] w (RowPost W w gm n0 f es ws):=by
 obtain rfl:n=ws.length:=hS.len;obtain ⟨i0,hi0,hz0,hz1,hz2⟩:=info_parts Tryz_info130;have hgpW:gp<W.heap.size:=World.block_lt_of_cell? W _ hp;have HSW:=qh hS;have HG:=qh hG;have HI:=qh hI;have HS:=qh (hS.up hI.gr hnc);have kp:=up_cell hI.gr hnc hp;have HP:=qh kp;have HM:=qh hm;have hlI:(ws.length:Int)≤1000:=by omega
 have hmx:=maxLen_ge;clear hG hI hS hp hm;by_cases h3:ws.length<3
 ·have hI3:(ws.length:Int)<3:=by omega
  have HC:=qh (show (rowCode (contents es) ws).1=2 by unfold rowCode;rw [if_pos h3]);clear h3 kp;go_enter Tryz.func71,Tryz.ntmps71;go_wp2_with fail;go_ret
  exact RowPost.bad (k:=2) HC.o (by omega) HI.o (Below.refl _ _)
 have hI3:¬ (ws.length:Int)<3:=by omega
 obtain ⟨sb,so,rfl,hsc⟩:=HS.o.at (by omega)
 have hsbW:sb<W.heap.size:=by
  obtain ⟨b',o',e,h⟩:=HSW.o.at (by omega);cases e
  exact World.block_lt_of_cell? W _ (h 0 ws[0] (List.getElem?_eq_getElem (by omega)))
 obtain ⟨l,hl0⟩:∃ l,ws[0]?=some l:=⟨ws[0],List.getElem?_eq_getElem (by omega)⟩;obtain ⟨ct,hc0⟩:∃ ct,ws[1]?=some ct:=⟨ws[1],List.getElem?_eq_getElem (by omega)⟩;have k0:=hsc 0 l hl0;have k1:=hsc 1 ct hc0;rw [Nat.add_zero] at k0;have hll:=HM.o l (List.mem_of_getElem? hl0);have hcl:=HM.o ct (List.mem_of_getElem? hc0);have HL0:=qh (show ws.getD 0 []=l by rw [List.getD_eq_getElem?_getD,hl0];rfl);have HC0:=qh (show ws.getD 1 []=ct by rw [List.getD_eq_getElem?_getD,hc0];rfl);have HK0:=qh k0;have HK1:=qh k1;have H3:=qh h3;have hn0:(0:Int)<(ws.length:Int):=by omega
 have hn0N:0<ws.length:=by omega
 have hn1N:1<ws.length:=by omega
 have hcap:=HS.o.cap;have hc2:¬ c - 2=0:=by omega
 have hc3:¬ c=2:=by omega
 have hn1:(1:Int)<(ws.length:Int):=by omega
 clear hsc hl0 hc0 h3;go_enter Tryz.func71,Tryz.ntmps71;go_wp2_with fail;refine (plural_lang w l (by omega)).mono ?_;rintro e w1 ⟨rfl,hb1⟩;have HI1:=qh (HI.o.below hb1);have HB1:=qh hb1;clear k0 k1 kp hb1;have k1:w1.cell? ⟨sb,so+1,none⟩=some (.string ⟨ct.toArray⟩):=(HB1.o.cell (World.block_lt_of_cell? w _ HK1.o)).trans HK1.o;rcases Bool.eq_false_or_eq_true (langP l) with hlp|hlp
 case inr =>
  rw [hlp];have HC:=qh (show (rowCode (contents es) ws).1=2 by unfold rowCode;rw [if_neg H3.o,HL0.o,if_pos hlp]);clear hlp;dsimp only;go_wp2_with fail;go_ret
  exact RowPost.bad (k:=2) HC.o (by omega) HI.o HB1.o
 rw [hlp];have HLP:=qh hlp;clear hlp;dsimp only;go_wp2_with fail;refine (plural_Category w1 ct).mono ?_;rintro e w2 ⟨rfl,hb2⟩;have HI2:=qh (HI1.o.below hb2);have HB2:=qt HB1 hb2;clear k1 hb2;have k1:w2.cell? ⟨sb,so+1,none⟩=some (.string ⟨ct.toArray⟩):=(HB2.o.cell (World.block_lt_of_cell? w _ HK1.o)).trans HK1.o;rcases Bool.eq_false_or_eq_true (catP ct) with hcp|hcp
 case inr =>
  rw [hcp];have HC:=qh (show (rowCode (contents es) ws).1=2 by unfold rowCode;rw [if_neg H3.o,HL0.o,HC0.o,if_neg (by rw [HLP.o];simp),if_pos hcp]);clear hcp;dsimp only;go_wp2_with fail;go_ret
  exact RowPost.bad (k:=2) HC.o (by omega) HI.o HB2.o
 rw [hcp];have HCP:=qh hcp;clear hcp;dsimp only;by_cases ho:ct=wOther
 ·have hte:(ct == [111,116,104,101,114])=true:=by rw [ho];rfl
  have HC:=qh (show (rowCode (contents es) ws).1=2 by unfold rowCode;rw [if_neg H3.o,HL0.o,HC0.o,if_neg (by rw [HLP.o];simp),if_neg (by rw [HCP.o];simp),if_pos ho]);clear ho;go_wp2_with fail;go_ret
  exact RowPost.bad (k:=2) HC.o (by omega) HI.o HB2.o
 have hte:(ct == [111,116,104,101,114])=false:=by simpa [wOther] using ho
 have HNO:=qh ho;clear ho;go_wp2_with fail
 --NEXT
 have hT:=(HS.o.below HB2.o ql).tail 2 (by omega);obtain ⟨j,hj⟩:∃ j,Lib.join (ws.drop 2) [32]=j:=⟨_,rfl⟩
 have hjl:j.length≤200000000:=by
  rw [← hj];have:=join_le [32] 1000 100000 (ws.drop 2) (fun t ht=>HM.o t (List.mem_of_mem_drop ht)) (by simp;omega);simp at this ⊢;omega
 refine (str_join w2 _ _ _ (ws.drop 2) ⟨#[32]⟩ hT (by simp;omega) (by rw [show (⟨#[32]⟩:ByteArray).data.toList=([32]:Bs) from rfl,hj];omega)).mono ?_;rw [show (⟨#[32]⟩:ByteArray).data.toList=([32]:Bs) from rfl,hj];have HJ:=qh hj;rintro e w3 ⟨rfl,hb3⟩;have HI3:=qh (HI2.o.below hb3);have HB3:=qt HB2 hb3;clear hT hj hb3 k1;dsimp only;go_wp2_with fail;refine (rule_Parse w3 ⟨j.toArray⟩ (HG.o.below HB3.o ql)).mono ?_;rw [show (⟨j.toArray⟩:ByteArray).data.toList=j from rfl];unfold ParsePost;rcases parseR_cases j with ⟨r,hr1,hr2⟩|⟨e,hr1,hr2⟩
 case inr =>
  have HC:=qh (show (rowCode (contents es) ws).1=e by unfold rowCode;rw [if_neg H3.o,HL0.o,HC0.o,if_neg (by rw [HLP.o];simp),if_neg (by rw [HCP.o];simp),if_neg HNO.o,HJ.o,hr1,if_pos (by rcases hr2 with rfl|rfl <;> simp)]);rw [hr1];clear hr1;rintro e' w4 ⟨A4,n4,c4,rfl,hrr,hb4⟩;have HI4:=qh (HB3.o.trans ((hb4.trans (((Below.refl _ _).alloc ql (.cells #[.slice A4 n4 c4] 30)).mono hb4.size)).mono HB3.o.size));clear hrr hb4;dsimp only;rcases hr2 with rfl|rfl
  ·go_wp2_with fail;go_ret
   exact RowPost.bad (k:=2) HC.o (by omega) HI.o HI4.o
  ·go_wp2_with fail;go_ret
   exact RowPost.bad (k:=11) HC.o (by omega) HI.o HI4.o
 have HR1:=qh hr1;rw [hr1];clear hr1 hr2;rintro e w4 ⟨RA,rn,rc,rfl,hrr,hb4⟩;have hal:Below w4.heap.size w4 (w4.alloc (.cells #[.slice RA rn rc] 30)):=(Below.refl _ _).alloc ql _;have hbb:=hb4.trans (hal.mono hb4.size);obtain ⟨g5,hg5⟩:∃ g5,w4.heap.size=g5:=⟨_,rfl⟩;have y1:Blk (w4.alloc (.cells #[.slice RA rn rc] 30)) g5 30 [.slice RA rn rc]:=by rw [← hg5];exact Blk.made _ 30 _ _ _ rfl rfl
 have Y1:=qh y1;have Y2:=qh (hrr.stable hal.size (fun b _ hlt=>hal.block b hlt));have Y3:=qt HB3 hbb;have Y4:=qh hbb;have hg35:w3.heap.size≤g5:=by rw [← hg5];exact hb4.size
 clear hal hbb hb4 hrr y1;dsimp only;go_upto_region 6 with fail
 try rw [hg5]
 refine wp_letter (fun w5=>Blk w5 g5 30 [.slice RA rn rc]∧RuleAreB w3.heap.size w5 RA rn rc r∧Below w.heap.size w w5∧Below w3.heap.size w3 w5) ⟨Y1.o,Y2.o,Y3.o,Y4.o⟩ ?_;clear Y1 Y2 Y3 Y4 hg5;rintro w5 ⟨y1,y2,y3,y4⟩;have Y1:=qh y1;have Y2:=qh y2;have Y3:=qh y3;have Y4:=qh y4;have HI5:=qh (HI3.o.below y4);clear y1 y2 y3 y4;have hlm:l.length≤maxLen:=by omega
 have HW:Hid (∀ w',Below w5.heap.size w5 w'→w'.cell? ⟨gp,0,none⟩=some (.map (some gm))∧w'.cell? ⟨sb,so,none⟩=some (.string ⟨l.toArray⟩)∧w'.cell? ⟨sb,so+1,none⟩=some (.string ⟨ct.toArray⟩)∧(Instr.lookup 126 (.map (some gm)) (.string ⟨l.toArray⟩) false).run Tryz.prog w'=.ok (f l) w'):=fun w' h=>by
  have hb:=Y3.o.trans (h.mono Y3.o.size);have cc:∀ (a:Addr) u,w.cell? a=some u→w'.cell? a=some u:=fun a u e=>(hb.cell (World.block_lt_of_cell? w _ e)).trans e;exact ⟨cc _ _ HP.o,cc _ _ HK0.o,cc _ _ HK1.o,(HI5.o.map.below h).look l hlm⟩
 obtain ⟨LA,lc,hlf,-⟩:=SlC.own (HI5.o.row l);have HLF:=qh hlf;rw [hlf] at HW;have hq:∀ q,(Instr.lookup 126 (.map (some gm)) (.string ⟨l.toArray⟩) false).run Tryz.prog (w5.drewN q)=.ok (.slice LA (es l).length lc) (w5.drewN q):=fun q=>(HW.o _ (below_drewN (Below.refl _ _) q)).2.2.2;obtain ⟨kp,k0,k1,-⟩:=HW.o w5 (Below.refl _ _);clear hlf;go_wp2_with fail;go_quiet (fail);go_step;go_wp2_with fail;have hel:=HI5.o.few l;have helI:((es l).length:Int)≤1000:=by omega
 clear kp k0 k1 hq;go_loopw [51] (fun i wr=>∃ k:Nat,k≤(es l).length∧i=.int .i64 k∧(∀ e ∈ (es l).take k,e.1≠ct)∧Below w5.heap.size w5 wr) (fun i _=>(es l).length - (intOf i).toNat)
 case atStart=>exact ⟨0,Nat.zero_le _,rfl,fun e he=>(by simp at he),below_drewN (Below.refl _ _) _⟩
 case round =>
  obtain ⟨k,hk,rfl,hno,hb⟩:=hrel;have HNO2:=qh hno;have HB:=qh hb;clear hno hb;obtain ⟨wo,rfl⟩:∃ wo:World,wo=wr:=⟨_,rfl⟩;by_cases hlt:k<(es l).length
  ·obtain ⟨b,o,rfl,hc⟩:=HI5.o.at l HLF.o (by omega);obtain ⟨e,he⟩:∃ e,(es l)[k]?=some e:=⟨(es l)[k],List.getElem?_eq_getElem hlt⟩;obtain ⟨QA,qn,qc,-,c0,c1⟩:=hc k e he;have cc:∀ (a:Addr) u,w5.cell? a=some u→wo.cell? a=some u:=fun a u e=>(HB.o.cell (World.block_lt_of_cell? w5 _ e)).trans e;have q0:=cc _ _ c0;have q1:=cc _ _ c1;obtain ⟨-,-,k1,-⟩:=HW.o wo HB.o;have HE:=qh he;have hkI:(k:Int)<((es l).length:Int):=by omega
   have hk0:(0:Int)≤(k:Int):=by omega
   clear hc c0 c1 cc he;obtain ⟨g8,hg8⟩:∃ g8,wo.heap.size=g8:=⟨_,rfl⟩;have hsb:sb<wo.heap.size:=World.block_lt_of_cell? wo _ k1;have hsb2:¬ sb=wo.heap.size:=by omega
   by_cases hec:e.1=ct
   ·have hte2:(e.1 == ct)=true:=by simpa using hec
    have hcode:(rowCode (contents es) ws).1=10:=by
     have h10:((contents es) l).any (fun e=>decide (e.1=ct))=true:=List.any_eq_true.2 ⟨prow e,List.mem_map.2 ⟨e,List.mem_of_getElem? HE.o,rfl⟩,by simp [prow,hec]⟩;unfold rowCode;rw [if_neg H3.o,HL0.o,HC0.o,if_neg (by rw [HLP.o];simp),if_neg (by rw [HCP.o];simp),if_neg HNO.o,HJ.o,HR1.o,if_neg (by simp),if_pos h10]
    have HC:=qh hcode;clear hec hcode hg8;go_wp2_with fail;go_quiet (fail);go_step;go_wp2_with fail;go_ret
    exact RowPost.bad (k:=10) HC.o (by omega) HI.o (Y3.o.trans ((HB.o.trans ((below_drewN ((Below.refl _ _).alloc ql _) _).mono HB.o.size)).mono Y3.o.size))
   ·have hte2:(e.1 == ct)=false:=by simpa using hec
    have HEC:=qh hec;clear hec hg8;go_wp2_with fail;go_quiet (fail);go_step;go_wp2_with fail;go_roundw
    case rel =>
     refine ⟨k+1,by omega,by go_num,fun e' he'=>?_,below_drewN (HB.o.alloc HB.o.size _) _⟩;rw [List.take_add_one,HE.o] at he';rcases List.mem_append.1 he' with h|h
     ·exact HNO2.o e' h
     ·obtain rfl:e'=e:=by simpa using h
      exact HEC.o
    case measure=>simp [intOf];omega
  ·have hkI:¬ (k:Int)<((es l).length:Int):=by omega
   have hno3:((contents es) l).any (fun e=>decide (e.1=ct))=false:=by
    have h:=HNO2.o;rw [List.take_of_length_le (by omega)] at h;rw [List.any_eq_false];rintro e' he';obtain ⟨e,he,rfl⟩:=List.mem_map.1 he';have:=h e he;simp [prow,this]
   have hcode:rowCode (contents es) ws=(0,r):=by
    unfold rowCode;rw [if_neg H3.o,HL0.o,HC0.o,if_neg (by rw [HLP.o];simp),if_neg (by rw [HCP.o];simp),if_neg HNO.o,HJ.o,HR1.o,if_neg (by simp),if_neg (by rw [hno3];simp)]
   have HC:=qh hcode;clear hno3 hcode;go_upto_region 12 with fail;have Q1:=qh (Y1.o.below HB.o Y1.o.lt);have Q2:=qh (Y2.o.stable HB.o.size (fun b _ hlt=>HB.o.block b hlt));have Q3:=qh (Y4.o.trans (HB.o.mono Y4.o.size));have QI:=qh (HI5.o.below HB.o)
   have HWS:Hid (∀ w',Below wo.heap.size wo w'→w'.cell? ⟨gp,0,none⟩=some (.map (some gm))∧w'.cell? ⟨sb,so,none⟩=some (.string ⟨l.toArray⟩)∧w'.cell? ⟨sb,so+1,none⟩=some (.string ⟨ct.toArray⟩)∧w'.cell? ⟨g5,0,none⟩=some (.slice RA rn rc)∧MapF w' gm n0 f):=fun w' h=>by
    have hb:=HB.o.trans (h.mono HB.o.size);obtain ⟨a1,a2,a3,-⟩:=HW.o w' hb;exact ⟨a1,a2,a3,(Q1.o.below h Q1.o.lt).cell 0,QI.o.map.below h⟩
   have hszo:w3.heap.size≤wo.heap.size:=Q3.o.size;refine wp_region_but (fun w'=>w'.cell? ⟨gp,0,none⟩=some (.map (some gm))∧w'.cell? ⟨sb,so,none⟩=some (.string ⟨l.toArray⟩)∧w'.cell? ⟨sb,so+1,none⟩=some (.string ⟨ct.toArray⟩)∧w'.cell? ⟨g5,0,none⟩=some (.slice RA rn rc)∧MapF w' gm n0 f) (by kernel_rfl) (by kernel_rfl) (HWS.o _ (Below.refl _ _).drew) (fun hHeld=>?_);simp only [initL,lastL];refine takeY (i:=0) (v:=?v31) ?hy31 ?rest31
   case hy31=>(intro wz hSz;(have hfz:=hSz;have hlz:=hSz.2.2.2.2.look l hlm;rw [HLF.o] at hlz);go_split_ands;(first|(go_simp;done)|(go_simp;with_reducible rfl)))
   try simp only [Act.put,MT,M0,M1]
   refine takeY (i:=1) (v:=?v32) ?hy32 ?rest32
   case hy32=>(intro wz hSz;(have hfz:=hSz;have hlz:=hSz.2.2.2.2.look l hlm;rw [HLF.o] at hlz);go_split_ands;(first|(go_simp;done)|(go_simp;with_reducible rfl)))
   try simp only [Act.put,MT,M0,M1]
   refine takeY (i:=2) (v:=?v33) ?hy33 ?rest33
   case hy33=>(intro wz hSz;(have hfz:=hSz;have hlz:=hSz.2.2.2.2.look l hlm;rw [HLF.o] at hlz);go_split_ands;(first|(go_simp;done)|(go_simp;with_reducible rfl)))
   try simp only [Act.put,MT,M0,M1]
   refine takeY (i:=3) (v:=?v34) ?hy34 ?rest34
   case hy34=>(intro wz hSz;(have hfz:=hSz;have hlz:=hSz.2.2.2.2.look l hlm;rw [HLF.o] at hlz);go_split_ands;(first|(go_simp;done)|(go_simp;with_reducible rfl)))
   try simp only [Act.put,MT,M0,M1]
   refine takeY (i:=4) (v:=?v35) ?hy35 ?rest35
   case hy35=>(intro wz hSz;(have hfz:=hSz;have hlz:=hSz.2.2.2.2.look l hlm;rw [HLF.o] at hlz);go_split_ands;(first|(go_simp;done)|(go_simp;with_reducible rfl)))
   try simp only [Act.put,MT,M0,M1]
   refine takeY (i:=5) (v:=?v36) ?hy36 ?rest36
   case hy36=>(intro wz hSz;(have hfz:=hSz;have hlz:=hSz.2.2.2.2.look l hlm;rw [HLF.o] at hlz);go_split_ands;(first|(go_simp;done)|(go_simp;with_reducible rfl)))
   try simp only [Act.put,MT,M0,M1]
   refine takeY (i:=6) (v:=?v37) ?hy37 ?rest37
   case hy37=>(intro wz hSz;(have hfz:=hSz;have hlz:=hSz.2.2.2.2.look l hlm;rw [HLF.o] at hlz);go_split_ands;(first|(go_simp;done)|(go_simp;with_reducible rfl)))
   try simp only [Act.put,MT,M0,M1]
   refine takeY (i:=7) (v:=?v38) ?hy38 ?rest38
   case hy38=>(intro wz hSz;(have hfz:=hSz;have hlz:=hSz.2.2.2.2.look l hlm;rw [HLF.o] at hlz);go_split_ands;(first|(go_simp;done)|(go_simp;with_reducible rfl)))
   try simp only [Act.put,MT,M0,M1]
   refine takeY (i:=8) (v:=?v39) ?hy39 ?rest39
   case hy39=>(intro wz hSz;(have hfz:=hSz;have hlz:=hSz.2.2.2.2.look l hlm;rw [HLF.o] at hlz);go_split_ands;(first|(go_simp;done)|(go_simp;with_reducible rfl)))
   try simp only [Act.put,MT,M0,M1]
   refine takeY (i:=9) (v:=?v40) ?hy40 ?rest40
   case hy40=>(intro wz hSz;(have hfz:=hSz;have hlz:=hSz.2.2.2.2.look l hlm;rw [HLF.o] at hlz);go_split_ands;(first|(go_simp;done)|(go_simp;with_reducible rfl)))
   try simp only [Act.put,MT,M0,M1]
   refine takeY (i:=10) (v:=?v41) ?hy41 ?rest41
   case hy41=>(intro wz hSz;(have hfz:=hSz;have hlz:=hSz.2.2.2.2.look l hlm;rw [HLF.o] at hlz);go_split_ands;(first|(go_simp;done)|(go_simp;with_reducible rfl)))
   try simp only [Act.put,MT,M0,M1]
   refine takeY (i:=11) (v:=?v42) ?hy42 ?rest42
   case hy42=>(intro wz hSz;(have hfz:=hSz;have hlz:=hSz.2.2.2.2.look l hlm;rw [HLF.o] at hlz);go_split_ands;(first|(go_simp;done)|(go_simp;with_reducible rfl)))
   try simp only [Act.put,MT,M0,M1]
   refine takeY (i:=12) (v:=?v43) ?hy43 ?rest43
   case hy43=>(intro wz hSz;(have hfz:=hSz;have hlz:=hSz.2.2.2.2.look l hlm;rw [HLF.o] at hlz);go_split_ands;(first|(go_simp;done)|(go_simp;with_reducible rfl)))
   try simp only [Act.put,MT,M0,M1]
   refine takeY (i:=13) (v:=?v44) ?hy44 ?rest44
   case hy44=>(intro wz hSz;(have hfz:=hSz;have hlz:=hSz.2.2.2.2.look l hlm;rw [HLF.o] at hlz);go_split_ands;(first|(go_simp;done)|(go_simp;with_reducible rfl)))
   try simp only [Act.put,MT,M0,M1]
   refine takeY (i:=14) (v:=?v45) ?hy45 ?rest45
   case hy45=>(intro wz hSz;(have hfz:=hSz;have hlz:=hSz.2.2.2.2.look l hlm;rw [HLF.o] at hlz);go_split_ands;(first|(go_simp;done)|(go_simp;with_reducible rfl)))
   try simp only [Act.put,MT,M0,M1]
   refine takeY (i:=15) (v:=?v46) ?hy46 ?rest46
   case hy46=>(intro wz hSz;(have hfz:=hSz;have hlz:=hSz.2.2.2.2.look l hlm;rw [HLF.o] at hlz);go_split_ands;(first|(go_simp;done)|(go_simp;with_reducible rfl)))
   try simp only [Act.put,MT,M0,M1]
   refine takeY (i:=16) (v:=?v47) ?hy47 ?rest47
   case hy47=>(intro wz hSz;(have hfz:=hSz;have hlz:=hSz.2.2.2.2.look l hlm;rw [HLF.o] at hlz);go_split_ands;(first|(go_simp;done)|(go_simp;with_reducible rfl)))
   try simp only [Act.put,MT,M0,M1]
   refine takeY (i:=17) (v:=?v48) ?hy48 ?rest48
   case hy48=>(intro wz hSz;(have hfz:=hSz;have hlz:=hSz.2.2.2.2.look l hlm;rw [HLF.o] at hlz);go_split_ands;(first|(go_simp;done)|(go_simp;with_reducible rfl)))
   try simp only [Act.put,MT,M0,M1]
   refine takeY (i:=18) (v:=?v49) ?hy49 ?rest49
   case hy49=>(intro wz hSz;(have hfz:=hSz;have hlz:=hSz.2.2.2.2.look l hlm;rw [HLF.o] at hlz);go_split_ands;(first|(go_simp;done)|(go_simp;with_reducible rfl)))
   try simp only [Act.put,MT,M0,M1]
   refine takeY (i:=19) (v:=?v50) ?hy50 ?rest50
   case hy50=>(intro wz hSz;(have hfz:=hSz;have hlz:=hSz.2.2.2.2.look l hlm;rw [HLF.o] at hlz);go_split_ands;(first|(go_simp;done)|(go_simp;with_reducible rfl)))
   try simp only [Act.put,MT,M0,M1]
   refine wpAnyH_ready (rs:=[20]) (by kernel_rfl) (by simp) ?_;refine consL rfl (fun K2 hK=>?_) AllReadyH.nil;go_simp;clear hHeld;have hal:Below wo.heap.size wo (wo.drew.alloc (.cells #[.string ⟨ct.toArray⟩,.slice RA rn rc] 130)):=(Below.refl _ _).drew.alloc (by simp) _;refine hK.out _ _ (HWS.o _ hal) (fun hHeld=>?_);clear hK K2
   try simp only [Act.put,MT,M0,M1]
   refine wpAnyH_letter (fun wz=>Blk wz wo.heap.size 130 [.string ⟨ct.toArray⟩,.slice RA rn rc]∧PlI W wz gm n0 f es∧RuleAreB w3.heap.size wz RA rn rc r∧Below wo.heap.size wo wz) ⟨Blk.made _ 130 _ _ _ rfl rfl,QI.o.below hal,Q2.o.stable hal.size (fun b _ hlt=>hal.block b hlt),hal⟩ ?_;clear hal hHeld;rintro wz ⟨x1,x2,x3,x4⟩;have X1:=qh x1;have X2:=qh x2;have X3:=qh x3;have X4:=qh x4;have hHeld:=HWS.o wz x4;have hszz:=x4.size;generalize wo.heap.size=g20 at *
   clear x1 x2 x3 x4;refine wpAnyH_ready (rs:=[21]) (by kernel_rfl) (by simp) ?_;refine consL rfl (fun K2 hK=>?_) AllReadyH.nil;refine step_append_lies _ rfl (.tmp 76) (.tmp 82) 125 rfl W.heap.size 130 i0 (.agg #[.string ByteArray.empty,.slice none 0 0]) 2 40 Tryz.underlying125 hi0 hz0 hz1 hz2 rfl (by decide) (.slice LA (es l).length lc) (es l).length (cells2 ((es l).map pcell)) rfl (by rw [← HLF.o];exact X2.o.row l) ⟨g20,0,none⟩ 1 1 [.string ⟨ct.toArray⟩,.slice RA rn rc] rfl rfl (World.news_of_block X1.o) (by simp [Value.oneCell']) (by omega) (by omega) (by omega) X2.o.gr.size wz.heap.size rfl ?_;intro g' cap' w7 hown hgrow hat hlt';clear hHeld;rw [← HLF.o] at hgrow hat;have hfar:∀ b o,b<wz.heap.size→(f l).ownBlock≠some b→w7.cell? ⟨b,o,none⟩=wz.cell? ⟨b,o,none⟩:=fun b o h1 h2=>hgrow.cell_far ⟨b,o,none⟩ h1 (fun e=>h2 e.symm);have hrl:∀ j,(f l).ownBlock=some j→W.heap.size≤j∧j<w3.heap.size:=fun j hj=>World.ownsRow.lt (HI3.o.row l) j hj;obtain ⟨b1,b2,b3,b4,b5⟩:=HWS.o wz X4.o
   have hS7:w7.cell? ⟨gp,0,none⟩=some (.map (some gm))∧w7.cell? ⟨sb,so,none⟩=some (.string ⟨l.toArray⟩)∧w7.cell? ⟨sb,so+1,none⟩=some (.string ⟨ct.toArray⟩)∧w7.cell? ⟨g5,0,none⟩=some (.slice RA rn rc)∧MapF w7 gm n0 f :=
    ⟨(hfar gp 0 (World.block_lt_of_cell? wz _ b1) (fun e=>by have:=(hrl _ e).1;omega)).trans b1,(hfar sb so (World.block_lt_of_cell? wz _ b2) (fun e=>by have:=(hrl _ e).1;omega)).trans b2,(hfar sb (so+1) (World.block_lt_of_cell? wz _ b3) (fun e=>by have:=(hrl _ e).1;omega)).trans b3,
     (hfar g5 0 (World.block_lt_of_cell? wz _ b4) (fun e=>by have:=(hrl _ e).2;omega)).trans b4,b5.kept hgrow (fun e=>by have:=(hrl gm e.symm).1;have:=HI3.o.lt;omega)⟩
   refine hK.out _ _ hS7 (fun hHeld=>?_);clear hK K2
   try simp only [Act.put,MT,M0,M1]
   obtain ⟨w8,hrun,hm8,hg8⟩:=hS7.2.2.2.2.put l (.slice (some ⟨g',0,none⟩) ((es l).length+1) cap') hlm (by omega);have HFIN:=qh (HI3.o.push (w1:=w7) (w2:=w8) (c:=ct) (Q3.o.trans (X4.o.mono hszo)) X3.o hgrow hown hat hm8 hg8);clear hS7 b1 b2 b3 b4 b5 hfar hrl hown hgrow hat hm8 hg8;refine wpAnyH_done (by kernel_rfl) ?_ _;clear hHeld;unfold TailQ;go_wp2_with fail;go_ret
   refine ⟨by rw [HC.o];rfl,fun h=>absurd (by rw [HC.o]) h,fun _=>⟨_,_,HFIN.o,?_⟩⟩;funext k'
   show (if k'=l then es l ++ [(ct,.slice RA rn rc,r)] else es k').map prow=if k'=ws.getD 0 [] then contents es k' ++ [(ws.getD 1 [],(rowCode (contents es) ws).2)] else contents es k';rw [HL0.o,HC0.o,HC.o];by_cases e:k'=l
   ·subst e;simp [prow,contents]
   ·simp [e,contents]
def wPlural:Bs:=[112,108,117,114,97,108]
def loadP (m:PMap):List Rw→Nat × Int × PMap
 | []=>(0,0,m)
 | r :: rs=>if (rowCode m (r.2.drop 1)).1=0 then loadP (rowPut m (r.2.drop 1)) rs else ((rowCode m (r.2.drop 1)).1,r.1,m)
def loadAll (L:List Rw):Nat × Int × PMap:=loadP (fun _=>[]) (L.filter (kindP wPlural))
def PlW (w:World) (gp:Nat) (m:PMap):Prop :=
 ∃ (gm n:Nat) (W:World) (f:Bs→Value) (es:Bs→List Pe),w.cell? ⟨gp,0,none⟩=some (.map (some gm))∧PlI W w gm n f es∧contents es=m∧n≤1000∧gp=gm+1
theorem PlW.below {w w':World} {gp:Nat} {m:PMap} (h:PlW w gp m) (hb:Below w.heap.size w w'):PlW w' gp m:=by
 obtain ⟨gm,n,W,f,es,h1,h2,h3,h4⟩:=h;exact ⟨gm,n,W,f,es,(hb.cell (World.block_lt_of_cell? w _ h1)).trans h1,h2.below hb,h3,h4⟩
theorem PlW.few {w:World} {gp:Nat} {m:PMap} (h:PlW w gp m) (k:Bs):(m k).length≤1000:=by
 obtain ⟨gm,n,W,f,es,h1,h2,rfl,h4,-⟩:=h;have:=h2.few k;simp [contents];omega
theorem RowsIs.up {W w:World} {gm:Nat} {A:Option Addr} {n c:Nat} {L:List Rw} (h:RowsIs W A n c L) (hg:W.grownBy w (some gm)) (hnc:∀ o,W.cell? ⟨gm,o,none⟩=none):RowsIs w A n c L:=by
 obtain ⟨es,h1,⟨A',c',e1,h2,h3,h4⟩,h5⟩:=h;refine ⟨es,h1,⟨A',c',e1,h2,h3,fun hp=>?_⟩,fun e he=>?_⟩
 ·obtain ⟨b,o,e2,h6⟩:=h4 hp;exact ⟨b,o,e2,fun j x hx=>up_cell hg hnc (h6 j x hx)⟩
 ·obtain ⟨A2,n2,c2,e2,h6⟩:=h5 e he;exact ⟨A2,n2,c2,e2,h6.up hg hnc⟩
def LoadI (W2:World) (gm:Nat) (R:List Rw) (i:Value) (wr:World):Prop :=
 ∃ (k n:Nat) (f:Bs→Value) (es:Bs→List Pe),k≤R.length∧i=.int .i64 k∧PlI W2 wr gm n f es∧n≤k∧loadP (contents es) (R.drop k)=loadP (fun _=>[]) R
def LoadPost (w:World) (L:List Rw) (e:Ending) (w':World):Prop :=
 (((loadAll L).1≠0∧e=.returned (.tuple #[.pointer none,.int .i64 (loadAll L).2.1,.int .i64 ((loadAll L).1:Nat)])) ∨
  ((loadAll L).1=0∧∃ gp,e=.returned (.tuple #[.pointer (some ⟨gp,0,none⟩),.int .i64 0,.int .i64 0])∧PlW w' gp (loadAll L).2.2∧w.heap.size<gp))∧Below w.heap.size w w'
theorem plural_Load (w:World) (A:Option Addr) (n c:Nat) (L:List Rw) (hG:GW w) (h:RowsIs w A n c L) (hl:L.length≤1000) (hw:∀ r ∈ L,r.2.length≤1000∧∀ t ∈ r.2,t.length≤100000) :
  Calls Tryz.prog 38 #[.slice A n c] w (LoadPost w L):=by
 have HG:=qh hG;have HX:=qh h;have HW:=qh hw;have hmm:=@run_makeMap Tryz.prog;clear hG h hw;go_enter Tryz.func38,Tryz.ntmps38;go_upto_region 2 with fail;refine wp_letter (fun w1=>MapF w1 w.heap.size 0 (fun _=>.slice none 0 0)∧Blk w1 (w.heap.size+1) 128 [.map (some w.heap.size)]∧RowsIs w1 A n c L∧Below w.heap.size w w1) ⟨(MapF.made w).below ((Below.refl _ _).alloc ql _),Blk.made _ 128 _ _ _ (by simp) rfl,HX.o.below (((Below.refl _ _).alloc ql _).alloc (by simp) _) ql,((Below.refl _ _).alloc ql _).alloc (by simp) _⟩ ?_;rintro w1 ⟨y1,y2,y3,y4⟩;have Y1:=qh y1;have Y2:=qh y2;have Y3:=qh y3;have Y4:=qh y4;have hgw:w.heap.size≤w.heap.size:=ql;clear y1 y2 y3 y4 HX;obtain ⟨gm,hgm⟩:∃ gm,w.heap.size=gm:=⟨_,rfl⟩;rw [hgm] at Y1 Y2
 try rw [hgm]
 have HGM:=qh hgm;clear hgm hgw;go_wp2_with fail;refine (rows_Of w1 A n c L wPlural Y3.o (by omega) (fun r hr=>by have:=(HW.o r hr).1;omega)).mono ?_;obtain ⟨R,hR⟩:∃ R,L.filter (kindP wPlural)=R:=⟨_,rfl⟩
 have hRL:∀ r ∈ R,(r.2.length≤1000∧∀ t ∈ r.2,t.length≤100000)∧r.2.head?=some wPlural:=by
  rw [← hR];intro r hr;have:=List.mem_filter.1 hr;exact ⟨HW.o r this.1,by simpa [kindP] using this.2⟩
 have hRl:R.length≤1000:=by rw [← hR];exact Nat.le_trans (List.length_filter_le _ _) hl
 rw [hR];have HLA:Hid (loadAll L=loadP (fun _=>[]) R):=by unfold loadAll;rw [hR];exact qh rfl
 have HRL:=qh hRL;clear hRL hR;rintro e W2 ⟨RA,rn,rc,rfl,hr,hb2⟩;obtain rfl:rn=R.length:=hr.len;have HM2:=qh (Y1.o.below hb2);have HP2:=qh (Y2.o.below hb2 Y2.o.lt);have HR2:=qh hr;have HB2:=qt Y4 hb2;have HNC:Hid (∀ o,W2.cell? ⟨gm,o,none⟩=none):=fun o=>(Y1.o.below hb2).cell o;have hRI:(R.length:Int)≤1000:=by omega
 clear hr hb2 Y1 Y2 Y3 Y4;dsimp only;go_wp2_with fail;go_loopw [15] (fun i wr=>LoadI W2 gm R i wr) (fun i _=>R.length - (intOf i).toNat)
 case atStart=>exact ⟨0,0,_,_,Nat.zero_le _,rfl,PlI.start W2 W2 gm HM2.o,ql,rfl⟩
 case round =>
  obtain ⟨k,n0,f,es,hk,rfl,hI,hn0,hload⟩:=hrel;obtain ⟨wo,rfl⟩:∃ wo:World,wo=wr:=⟨_,rfl⟩;have HI:=qh hI;have HLD:=qh hload;have HBW:Hid (Below w.heap.size w wo):=below_grown HB2.o hI.gr HB2.o.size (fun j hj=>by cases hj;exact Nat.le_of_eq HGM.o);have hszo:=hI.gr.size;have HRU:=qh (HR2.o.up hI.gr HNC.o);have HPU:=qh (up_cell hI.gr HNC.o (HP2.o.cell 0));clear hI hload;by_cases hlt:k<R.length
  case neg =>
   have hkI:¬ (k:Int)<(R.length:Int):=by omega
   have hfin:loadAll L=(0,0,contents es):=by rw [HLA.o,← HLD.o,List.drop_eq_nil_of_le (by omega)];rfl
   have HF:=qh hfin;clear hfin;go_wp2_with fail;refine bodyPost_ret (v:=.tuple #[.pointer (some ⟨gm+1,0,none⟩),.int .i64 0,.int .i64 0]) (by simp [results,Tryz.results38,go_sem];try rfl) rfl ?_;exact ⟨.inr ⟨by rw [HF.o],gm+1,rfl,⟨gm,n0,W2,f,es,HPU.o,HI.o,by rw [HF.o],by omega,rfl⟩,by have:=HGM.o;omega⟩,HBW.o⟩
  obtain ⟨b,o,rfl,hc⟩:=HRU.o.at (by omega);obtain ⟨⟨ln,ws⟩,hx⟩:∃ x,R[k]?=some x:=⟨R[k],List.getElem?_eq_getElem hlt⟩;obtain ⟨⟨hwl,hwm⟩,hwh⟩:=HRL.o _ (List.mem_of_getElem? hx);dsimp only at hwl hwm hwh
  obtain ⟨ws',rfl⟩:∃ ws',ws=wPlural :: ws':=by
   cases ws with
   | nil=>simp at hwh
   | cons a t=>exact ⟨t,by simp at hwh;rw [hwh]⟩
  obtain ⟨WB,wm,wd,hS,r0,r1⟩:∃ WB wm wd,StrsAre W2 WB wm wd (wPlural :: ws')∧W2.cell? ⟨b,o+k * 2,none⟩=some (.int .i64 ln)∧W2.cell? ⟨b,o+k * 2+1,none⟩=some (.slice WB wm wd):=by
   obtain ⟨b',o',e,hc'⟩:=HR2.o.at (by omega);cases e
   exact hc' k _ hx
  have hwm0:wm=ws'.length+1:=hS.len;have HWM0:=qh hwm0;have hcap:=hS.cap;obtain ⟨sb,so,rfl,-⟩:=hS.at (by simp);have q0:=up_cell HI.o.gr HNC.o r0;have q1:=up_cell HI.o.gr HNC.o r1;have HS:=qh hS;have HD:=qh (drop_at hx);have HWM:Hid (∀ t ∈ ws',t.length≤100000):=fun t ht=>hwm t (List.mem_cons_of_mem _ ht);have hwl2:ws'.length≤1000:=by simp at hwl;omega
  have hkI:(k:Int)<(R.length:Int):=by omega
  have hk0:(0:Int)≤(k:Int):=by omega
  have hwm1:1≤wm:=by omega
  have hwm1I:(1:Int)≤(wm:Int):=by omega
  have hwd1I:(wm:Int)≤(wd:Int):=by omega
  clear hc hx hwm hwh hwl r0 r1 hS hwm0;go_upto_region 5 with fail;refine wp_letter (fun wx=>Blk wx wo.heap.size 132 [.int .i64 ln,.slice (some ⟨sb,so,none⟩) wm wd]∧PlI W2 wx gm n0 f es∧Below w.heap.size w wx) ⟨Blk.made _ 132 _ _ _ rfl rfl,HI.o.below ((Below.refl _ _).alloc ql _),HBW.o.alloc HBW.o.size _⟩ ?_;rintro wx ⟨x1,x2,x3⟩;have X1:=qh x1;have XI:=qh x2;have HBX:=qh x3;obtain ⟨m0,m1⟩:=x1.c2;generalize wo.heap.size=g7 at *
  clear x1 x2 x3 q0 q1;by_cases hwd:wd - 1=0
  ·have hws:ws'=[]:=List.eq_nil_of_length_eq_zero (by have:=HWM0.o;omega);have hwm2:wm - 1=0:=by omega
   have HWS0:=qh hws;have HWM2:=qh hwm2;clear hws hwm2;go_wp2_with fail;refine (plural_row W2 wx (gm+1) gm n0 f es (some ⟨sb,so,none⟩) (wm - 1) 0 ws' (HG.o.below HBX.o ql) XI.o HNC.o (HP2.o.cell 0) (by rw [HWS0.o,HWM2.o];exact SlC.nil _ _ _ _) hwl2 HWM.o (by omega)).mono ?_;clear m0 m1;rintro e w5 ⟨he,hne,heq⟩;obtain ⟨cd,hcd⟩:∃ cd,(rowCode (contents es) ws').1=cd:=⟨_,rfl⟩;rw [hcd] at he hne heq;subst he;have hstep:loadP (contents es) (R.drop k)=if cd=0 then loadP (rowPut (contents es) ws') (R.drop (k+1)) else (cd,ln,contents es):=by rw [HD.o,← hcd];rfl
   have HST:=qh hstep;clear hstep hcd;dsimp only;by_cases h0:cd=0
   ·subst h0;obtain ⟨f',es',hI',hcon⟩:=heq rfl;have HI':=qh hI';have HN:Hid (loadP (contents es') (R.drop (k+1))=loadP (fun _=>[]) R):=by have h:=HST.o;rw [if_pos rfl,← hcon] at h;rw [← h];exact HLD
    clear hne heq hI' hcon;go_wp2_with fail;go_roundw
    case rel=>exact ⟨k+1,n0+1,f',es',by omega,by go_num,HI'.o,by omega,HN.o⟩
    case measure=>simp [intOf];omega
   obtain ⟨-,hb5⟩:=hne h0;have HB5:=qt HBX hb5;obtain ⟨x0,x1⟩:=(X1.o.below hb5 X1.o.lt).c2
   have hfin:(loadAll L).1=cd∧(loadAll L).2.1=ln:=by
    have h:=HST.o;rw [if_neg h0,HLD.o,← HLA.o] at h;rw [h];exact ⟨rfl,rfl⟩
   have HF:=qh hfin;have hcI:((cd:Nat):Int)≠0:=by omega
   have hcI2:(((cd:Nat):Int) != 0)=true:=by simpa using hcI
   have H0:=qh h0;clear hne heq hb5 hfin h0;go_wp2_with fail;go_quiet (fail);go_step;go_wp2_with fail;refine bodyPost_ret (v:=.tuple #[.pointer none,.int .i64 ln,.int .i64 (cd:Nat)]) (by simp [results,Tryz.results38,go_sem];try rfl) rfl ?_;exact ⟨.inl ⟨by rw [HF.o.1];exact H0.o,by rw [HF.o.1,HF.o.2]⟩,below_drewN HB5.o _⟩
  have hwd2:¬ wd=1:=by omega
  go_wp2_with fail
  refine (plural_row W2 wx (gm+1) gm n0 f es (some ⟨sb,so+1,none⟩) (wm - 1) (wd - 1) ws' (HG.o.below HBX.o ql) XI.o HNC.o (HP2.o.cell 0) (by
   have h:=HS.o.tail 1 (by simp);rw [show (wPlural :: ws').length - 1=wm - 1 by have:=HWM0.o;simp;omega] at h
   exact h) hwl2 HWM.o (by omega)).mono ?_
  clear m0 m1;rintro e w5 ⟨he,hne,heq⟩;obtain ⟨cd,hcd⟩:∃ cd,(rowCode (contents es) ws').1=cd:=⟨_,rfl⟩;rw [hcd] at he hne heq;subst he;have hstep:loadP (contents es) (R.drop k)=if cd=0 then loadP (rowPut (contents es) ws') (R.drop (k+1)) else (cd,ln,contents es):=by rw [HD.o,← hcd];rfl
  have HST:=qh hstep;clear hstep hcd;dsimp only;by_cases h0:cd=0
  ·subst h0;obtain ⟨f',es',hI',hcon⟩:=heq rfl;have HI':=qh hI';have HN:Hid (loadP (contents es') (R.drop (k+1))=loadP (fun _=>[]) R):=by have h:=HST.o;rw [if_pos rfl,← hcon] at h;rw [← h];exact HLD
   clear hne heq hI' hcon;go_wp2_with fail;go_roundw
   case rel=>exact ⟨k+1,n0+1,f',es',by omega,by go_num,HI'.o,by omega,HN.o⟩
   case measure=>simp [intOf];omega
  obtain ⟨-,hb5⟩:=hne h0;have HB5:=qt HBX hb5;obtain ⟨x0,x1⟩:=(X1.o.below hb5 X1.o.lt).c2
  have hfin:(loadAll L).1=cd∧(loadAll L).2.1=ln:=by
   have h:=HST.o;rw [if_neg h0,HLD.o,← HLA.o] at h;rw [h];exact ⟨rfl,rfl⟩
  have HF:=qh hfin;have hcI:((cd:Nat):Int)≠0:=by omega
  have hcI2:(((cd:Nat):Int) != 0)=true:=by simpa using hcI
  have H0:=qh h0;clear hne heq hb5 hfin h0;go_wp2_with fail;go_quiet (fail);go_step;go_wp2_with fail;refine bodyPost_ret (v:=.tuple #[.pointer none,.int .i64 ln,.int .i64 (cd:Nat)]) (by simp [results,Tryz.results38,go_sem];try rfl) rfl ?_;exact ⟨.inl ⟨by rw [HF.o.1];exact H0.o,by rw [HF.o.1,HF.o.2]⟩,below_drewN HB5.o _⟩
end Go.Proofs.YtdgleeglndcjhaaGreatDoor
