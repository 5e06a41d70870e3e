import Derived.Test.YtdgleeglndcjhaaGreatDoorX16
set_option linter.unusedVariables false
set_option maxHeartbeats 2000000
set_option maxRecDepth 100000
namespace Go.Proofs.YtdgleeglndcjhaaGreatDoor
open Go.RowKit
structure HoldL (W:World) (L:List (Nat × TypeId × Nat)) (w:World):Prop where
 os:w.os=W.os
 tape:w.tape=W.tape
 output:w.output=W.output
 size:W.heap.size≤w.heap.size
 block:∀ k,k<W.heap.size→(∀ e ∈ L,k≠e.1)→w.heap[k]?=W.heap[k]?
 is:∀ e ∈ L,∃ l:List Value,l.length=e.2.2∧Blk w e.1 e.2.1 l∧No32 l
 was:∀ e ∈ L,∃ l:List Value,Blk W e.1 e.2.1 l∧No32 l
theorem HoldL.start {W:World} {L:List (Nat × TypeId × Nat)} (h:∀ e ∈ L,∃ l:List Value,l.length=e.2.2∧Blk W e.1 e.2.1 l∧No32 l):HoldL W L W :=
 ⟨rfl,rfl,rfl,ql,fun _ _ _=>rfl,h,fun e he=>let ⟨l,_,h2,h3⟩:=h e he;⟨l,h2,h3⟩⟩
theorem HoldL.drew {W w:World} {L:List (Nat × TypeId × Nat)} (h:HoldL W L w):HoldL W L w.drew :=
 ⟨h.os,h.tape,h.output,h.size,h.block,h.is,h.was⟩
theorem HoldL.call {W w w':World} {L:List (Nat × TypeId × Nat)} (h:HoldL W L w) (hb:Below w.heap.size w w'):HoldL W L w' :=
 ⟨hb.os.trans h.os,hb.tape.trans h.tape,hb.output.trans h.output,Nat.le_trans h.size hb.size,fun k hk hne=>(hb.block k (Nat.lt_of_lt_of_le hk h.size)).trans (h.block k hk hne),
  fun e he=>let ⟨l,h3,h4,h5⟩:=h.is e he;⟨l,h3,h4.below hb h4.lt,h5⟩,h.was⟩
theorem HoldL.set {W w:World} {L:List (Nat × TypeId × Nat)} (h:HoldL W L w) (g i:Nat) (u:Value) (hg:∃ t n,(g,t,n) ∈ L) (hu:∀ n,u≠.int .u32 n):HoldL W L (w.setCell ⟨g,i,none⟩ u):=by
 obtain ⟨t,n,hg⟩:=hg;refine ⟨h.os,h.tape,h.output,by simpa [World.setCell] using h.size,fun k hk hne=>?_,fun e he=>?_,h.was⟩
 ·rw [Below.heap_setCell _ _ _ _ (hne _ hg)];exact h.block k hk hne
 ·obtain ⟨l,h3,h4,h5⟩:=h.is e he;by_cases heg:e.1=g
  ·subst heg;refine ⟨_,by simpa using h3,h4.put i u,fun x hx=>?_⟩;rcases List.mem_or_eq_of_mem_set hx with h|h
   ·exact h5 x h
   ·subst h;exact hu
  ·exact ⟨l,h3,h4.far _ _ heg,h5⟩
theorem HoldL.cell {W w:World} {L:List (Nat × TypeId × Nat)} (h:HoldL W L w) (g:Nat) (t:TypeId) (n i:Nat) (hg:(g,t,n) ∈ L) (hi:i<n):w.cell? ⟨g,i,none⟩=some (cellAt w ⟨g,i,none⟩):=by
 obtain ⟨l,h3,h4,h5⟩:=h.is _ hg;unfold cellAt;rw [h4.cell,List.getElem?_eq_getElem (by simp only at h3;omega)];rfl
theorem HoldL.frozen {W w:World} {L:List (Nat × TypeId × Nat)} (h:HoldL W L w) (g:Nat) (t:TypeId) (n i:Nat) (hg:(g,t,n) ∈ L):w.frozen? ⟨g,i,none⟩=false:=by
 obtain ⟨l,h3,h4,h5⟩:=h.is _ hg;exact h4.frozen i
theorem HoldL.blk {W w:World} {L:List (Nat × TypeId × Nat)} {b:Nat} {s:TypeId} {l:List Value} (h:HoldL W L w) (hB:Blk W b s l) (hne:∀ e ∈ L,b≠e.1):Blk w b s l:=by
 have:=hB.lt;unfold Blk at *
 rw [h.block b this hne];exact hB
theorem HoldL.get {W w:World} {L:List (Nat × TypeId × Nat)} (h:HoldL W L w) (g:Nat) (t:TypeId) (n:Nat) (hg:(g,t,n) ∈ L):∃ l:List Value,l.length=n∧Blk w g t l:=by
 obtain ⟨l,h3,h4,-⟩:=h.is _ hg;exact ⟨l,h3,h4⟩
theorem HoldL.below {W w:World} {L:List (Nat × TypeId × Nat)} {B:Nat} (h:HoldL W L w) (hB:∀ e ∈ L,B≤e.1) (hW:B≤W.heap.size):Below B W w :=
 ⟨h.os,h.tape,h.output,h.size,fun k hk=>h.block k (Nat.lt_of_lt_of_le hk hW) fun e he=>by have:=hB e he;omega⟩
theorem SN.apartL {w w':World} {A:Option Addr} {m c k:Nat} {L:List (Nat × TypeId × Nat)} (hs:SN w A m c k) (hL:∀ e ∈ L,∃ l:List Value,Blk w e.1 e.2.1 l∧No32 l) (hk:∀ b,b<w.heap.size→(∀ e ∈ L,b≠e.1)→w'.heap[b]?=w.heap[b]?):SN w' A m c k:=by
 obtain ⟨⟨A',c',h1,h2,h3,h4⟩,hd⟩:=hs;refine ⟨⟨A',c',h1,h2,h3,fun hp=>?_⟩,hd⟩;obtain ⟨b,o,h5,h6⟩:=h4 hp
 have hne:∀ e ∈ L,b≠e.1:=by
  rintro e he rfl;obtain ⟨l,hB,hl⟩:=hL e he;have hl':0<(wordsOf k).length:=by simpa [U32] using hp
  have h0:=h6 0 _ (U32_get _ 0 hl');rw [hB.cell] at h0;exact hl _ (List.mem_of_getElem? h0) _ rfl
 refine ⟨b,o,h5,fun j x hx=>?_⟩;have:=h6 j x hx;rw [← this];unfold World.cell?;rw [hk b (World.block_lt_of_cell? w _ this) hne]
theorem HoldL.sn {W w:World} {L:List (Nat × TypeId × Nat)} (h:HoldL W L w) {A:Option Addr} {m c k:Nat} (hs:SN W A m c k):SN w A m c k:=hs.apartL h.was h.block
theorem SN.hsetL {W w:World} {L:List (Nat × TypeId × Nat)} {A:Option Addr} {m c k:Nat} (hs:SN w A m c k) (h:HoldL W L w) (g i:Nat) (u:Value) (hg:∃ t n,(g,t,n) ∈ L):SN (w.setCell ⟨g,i,none⟩ u) A m c k:=by
 obtain ⟨t,n,hg⟩:=hg;obtain ⟨l,-,hB,hl⟩:=h.is _ hg;exact hs.apart hB hl fun b hb hne=>Below.heap_setCell _ _ _ _ hne
def RetZZ (e:Ending) (w':World) (q r:Int):Prop:=∃ b A n c b' A' n' c',e=.returned (.tuple #[.agg #[.bool b,.slice A n c],.agg #[.bool b',.slice A' n' c'],.bool true])∧RZ w' b A n c q∧RZ w' b' A' n' c' r
theorem num_Div (w:World) (A A':Option Addr) (n c n' c':Nat) (x y:Nat) (hx:SN w A n c x) (hy:SN w A' n' c' y) (hbx:Big x) (hby:Big y) (hy0:0<y) :
  Calls Tryz.prog 147 #[.agg #[.bool false,.slice A n c],.agg #[.bool false,.slice A' n' c']] w fun e w'=>RetZZ e w' ((x / y:Nat):Int) ((x % y:Nat):Int)∧Below w.heap.size w w':=by
 have HX:=qh hx;have HY:=qh hy;have HBX:=qh hbx;have HBY:=qh hby;have HY0:=qh hy0;have HBQ:Hid (Big (x / y)):=hbx.mono (Nat.div_le_self _ _);have HBR:Hid (Big (x % y)):=hbx.mono (Nat.mod_le _ _);clear hx hy hbx hby hy0;go_enter Tryz.func147,Tryz.ntmps147;go_upto_region 1 with fail;refine wp_letter (fun w1=>Blk w1 w.heap.size 35 [.bool false,.slice A n c]∧Blk w1 (w.heap.size+1) 35 [.bool false,.slice A' n' c']∧Blk w1 (w.heap.size+1+1) 35 [.bool false,.slice none 0 0]∧Blk w1 (w.heap.size+1+1+1) 35 [.bool false,.slice none 0 0]∧Below w.heap.size w w1) ⟨((((Blk.made _ 35 _ _ _ (by simp) rfl).alloc _).alloc _).alloc _),(((Blk.made _ 35 _ _ _ (by simp) rfl).alloc _).alloc _),((Blk.made _ 35 _ _ _ (by simp) rfl).alloc _),(Blk.made _ 35 _ _ _ (by simp) rfl),(((((Below.refl _ _).alloc (by simp;try omega) _).alloc (by simp;try omega) _).alloc (by simp;try omega) _).alloc (by simp;try omega) _)⟩ ?_;rintro w1 ⟨b0,b1,b2,b3,hb⟩;obtain ⟨k00,k01⟩:=b0.c2;obtain ⟨k10,k11⟩:=b1.c2;obtain ⟨k20,k21⟩:=b2.c2;obtain ⟨k30,k31⟩:=b3.c2;have HB:=qh hb;have H0:=qh b0;have H1:=qh b1;have H2:=qh b2;have H3:=qh b3;have hz:=b3.lt;clear hb b0 b1 b2 b3;go_wp2_with fail;refine (natDiv _ A A' n c n' c' x y (HX.o.below HB.o ql) (HY.o.below HB.o ql) HBX.o HBY.o HY0.o).mono ?_;rintro e w2 ⟨⟨A2,n2,c2,A3,n3,c3,rfl,hr2,hr3⟩,hb2⟩;have hz2:=hb2.size;have m1:=(((H0.o.below hb2 (by omega)).alloc (.cells #[.slice A2 n2 c2] 24)).alloc (.cells #[.slice A3 n3 c3] 24)).c1;clear k00 k01 k10 k11 k20 k21 k30 k31;dsimp only;go_wp2_with fail
 refine wp_letter (fun w3=>Blk w3 w.heap.size 35 [.bool false,.slice A n c]∧Blk w3 (w.heap.size+1) 35 [.bool false,.slice A' n' c']∧Blk w3 (w.heap.size+1+1) 35 [.bool false,.slice none 0 0]∧Blk w3 (w.heap.size+1+1+1) 35 [.bool false,.slice none 0 0] ∧
   Blk w3 w2.heap.size 24 [.slice A2 n2 c2]∧Blk w3 (w2.heap.size+1) 24 [.slice A3 n3 c3]∧SN w3 A2 n2 c2 (x / y)∧SN w3 A3 n3 c3 (x % y)∧Below w.heap.size w w3)
  ⟨((H0.o.below hb2 (by omega)).alloc _).alloc _,((H1.o.below hb2 (by omega)).alloc _).alloc _,((H2.o.below hb2 (by omega)).alloc _).alloc _,((H3.o.below hb2 (by omega)).alloc _).alloc _,(Blk.made _ 24 _ _ _ rfl rfl).alloc _,Blk.made _ 24 _ _ _ (by simp) rfl,
   hr2.below (((Below.refl _ _).alloc ql _).alloc (by simp) _) ql,hr3.below (((Below.refl _ _).alloc ql _).alloc (by simp) _) ql,((HB.o.trans (hb2.mono HB.o.size)).alloc (by omega) _).alloc (by simp;omega) _⟩ ?_
 rintro w3 ⟨g0,g1,g2,g3,g7,g8,r2,r3,hbb⟩;have G0:=qh g0;have G1:=qh g1;have G2:=qh g2;have G3:=qh g3;have G7:=qh g7;have G8:=qh g8;have R2:=qh r2;have R3:=qh r3;have HBB:=qh hbb;have z8:=g8.lt;clear m1 g0 g1 g2 g3 g7 g8 r2 r3 hbb hr2 hr3 H0 H1 H2 H3 HX HY HB HY0 hb2;have HF:Hid (∀ w',HoldL w3 [(w.heap.size+1+1,35,2),(w.heap.size+1+1+1,35,2)] w'→w'.cell? ⟨w.heap.size,0,none⟩=some (.bool false)∧w'.cell? ⟨w.heap.size+1,0,none⟩=some (.bool false)∧w'.cell? ⟨w2.heap.size,0,none⟩=some (.slice A2 n2 c2)∧w'.cell? ⟨w2.heap.size+1,0,none⟩=some (.slice A3 n3 c3)∧w'.cell? ⟨w.heap.size+1+1,0,none⟩=some (cellAt w' ⟨w.heap.size+1+1,0,none⟩)∧w'.cell? ⟨w.heap.size+1+1,1,none⟩=some (cellAt w' ⟨w.heap.size+1+1,1,none⟩)∧w'.frozen? ⟨w.heap.size+1+1,0,none⟩=false∧w'.frozen? ⟨w.heap.size+1+1,1,none⟩=false∧w'.cell? ⟨w.heap.size+1+1+1,0,none⟩=some (cellAt w' ⟨w.heap.size+1+1+1,0,none⟩)∧w'.cell? ⟨w.heap.size+1+1+1,1,none⟩=some (cellAt w' ⟨w.heap.size+1+1+1,1,none⟩)∧w'.frozen? ⟨w.heap.size+1+1+1,0,none⟩=false∧w'.frozen? ⟨w.heap.size+1+1+1,1,none⟩=false∧HoldL w3 [(w.heap.size+1+1,35,2),(w.heap.size+1+1+1,35,2)] w'):=fun w' h=>⟨(h.blk G0.o (by simp <;> omega)).cell 0,(h.blk G1.o (by simp <;> omega)).cell 0,(h.blk G7.o (by simp <;> omega)).cell 0,(h.blk G8.o (by simp <;> omega)).cell 0,h.cell _ 35 2 0 (by simp) (by omega),h.cell _ 35 2 1 (by simp) (by omega),h.frozen _ 35 2 0 (by simp),h.frozen _ 35 2 1 (by simp),h.cell _ 35 2 0 (by simp) (by omega),h.cell _ 35 2 1 (by simp) (by omega),h.frozen _ 35 2 0 (by simp),h.frozen _ 35 2 1 (by simp),h⟩;have HSt:Hid (HoldL w3 [(w.heap.size+1+1,35,2),(w.heap.size+1+1+1,35,2)] w3):=HoldL.start (by simp;exact ⟨⟨_,by simp,G2.o,by simp [No32]⟩,⟨_,by simp,G3.o,by simp [No32]⟩⟩)
 go_region_held3 (fun w'=>w'.cell? ⟨w.heap.size,0,none⟩=some (.bool false)∧w'.cell? ⟨w.heap.size+1,0,none⟩=some (.bool false)∧w'.cell? ⟨w2.heap.size,0,none⟩=some (.slice A2 n2 c2)∧w'.cell? ⟨w2.heap.size+1,0,none⟩=some (.slice A3 n3 c3)∧w'.cell? ⟨w.heap.size+1+1,0,none⟩=some (cellAt w' ⟨w.heap.size+1+1,0,none⟩)∧w'.cell? ⟨w.heap.size+1+1,1,none⟩=some (cellAt w' ⟨w.heap.size+1+1,1,none⟩)∧w'.frozen? ⟨w.heap.size+1+1,0,none⟩=false∧w'.frozen? ⟨w.heap.size+1+1,1,none⟩=false∧w'.cell? ⟨w.heap.size+1+1+1,0,none⟩=some (cellAt w' ⟨w.heap.size+1+1+1,0,none⟩)∧w'.cell? ⟨w.heap.size+1+1+1,1,none⟩=some (cellAt w' ⟨w.heap.size+1+1+1,1,none⟩)∧w'.frozen? ⟨w.heap.size+1+1+1,0,none⟩=false∧w'.frozen? ⟨w.heap.size+1+1+1,1,none⟩=false∧HoldL w3 [(w.heap.size+1+1,35,2),(w.heap.size+1+1+1,35,2)] w')
  (first|exact HF.o _ HSt.o.drew|(go_split_ands;first|exact HF.o _ (HoldL.call ‹HoldL w3 [(w.heap.size+1+1,35,2),(w.heap.size+1+1+1,35,2)] _› hb4)|exact HF.o _ (HoldL.call ‹HoldL w3 [(w.heap.size+1+1,35,2),(w.heap.size+1+1+1,35,2)] _› hb5)|exact HF.o _ ((HoldL.set ‹HoldL w3 [(w.heap.size+1+1,35,2),(w.heap.size+1+1+1,35,2)] _› (w.heap.size+1+1) 0 _ ⟨35,2,by simp⟩ (by simp)).set (w.heap.size+1+1) 1 _ ⟨35,2,by simp⟩ (by simp))|exact HF.o _ ((HoldL.set ‹HoldL w3 [(w.heap.size+1+1,35,2),(w.heap.size+1+1+1,35,2)] _› (w.heap.size+1+1+1) 0 _ ⟨35,2,by simp⟩ (by simp)).set (w.heap.size+1+1+1) 1 _ ⟨35,2,by simp⟩ (by simp))))
  (first|((with_reducible refine (num_made _ _ A2 n2 c2 (x / y) ?_ HBQ.o).mono ?_);(refine HoldL.sn (W:=w3) (L:=[(w.heap.size+1+1,35,2),(w.heap.size+1+1+1,35,2)]) ?_ R2.o;(go_split_ands;assumption));rintro e w4 ⟨⟨b4,A4,n4,c4,rfl,hr4⟩,hb4⟩)|((with_reducible refine (num_made _ _ A3 n3 c3 (x % y) ?_ HBR.o).mono ?_);(refine HoldL.sn (W:=w3) (L:=[(w.heap.size+1+1,35,2),(w.heap.size+1+1+1,35,2)]) ?_ R3.o;(go_split_ands;assumption));rintro e w5 ⟨⟨b5,A5,n5,c5,rfl,hr5⟩,hb5⟩))
 have hh:=(HSt.o.drew.call hb4).call hb5;obtain ⟨l2,q2,B2⟩:=hh.get (w.heap.size+1+1) 35 2 (by simp);obtain ⟨l3,q3,B3⟩:=hh.get (w.heap.size+1+1+1) 35 2 (by simp)
 obtain ⟨y1,y2,rfl⟩:∃ x y,l2=[x,y]:=by
  match l2,q2 with
  | [x,y],_=>exact ⟨x,y,rfl⟩
 obtain ⟨y3,y4,rfl⟩:∃ x y,l3=[x,y]:=by
  match l3,q3 with
  | [x,y],_=>exact ⟨x,y,rfl⟩
 have e2:=(((B2.put 0 (.bool b4)).put 1 (.slice A4 n4 c4)).far ⟨w.heap.size+1+1+1,0,none⟩ (.bool b5) (by simp)).far ⟨w.heap.size+1+1+1,1,none⟩ (.slice A5 n5 c5) (by simp);have e3:=((((B3.far ⟨w.heap.size+1+1,0,none⟩ (.bool b4) (by simp)).far ⟨w.heap.size+1+1,1,none⟩ (.slice A4 n4 c4) (by simp)).put 0 (.bool b5)).put 1 (.slice A5 n5 c5));have hg:=((((hh.set (w.heap.size+1+1) 0 (.bool b4) ⟨35,2,by simp⟩ (by simp)).set (w.heap.size+1+1) 1 (.slice A4 n4 c4) ⟨35,2,by simp⟩ (by simp)).set (w.heap.size+1+1+1) 0 (.bool b5) ⟨35,2,by simp⟩ (by simp)).set (w.heap.size+1+1+1) 1 (.slice A5 n5 c5) ⟨35,2,by simp⟩ (by simp));have s4:=(((((hr4.sn.below hb5 ql).hsetL hh (w.heap.size+1+1) 0 (.bool b4) ⟨35,2,by simp⟩).hsetL (hh.set (w.heap.size+1+1) 0 (.bool b4) ⟨35,2,by simp⟩ (by simp)) (w.heap.size+1+1) 1 (.slice A4 n4 c4) ⟨35,2,by simp⟩).hsetL ((hh.set (w.heap.size+1+1) 0 (.bool b4) ⟨35,2,by simp⟩ (by simp)).set (w.heap.size+1+1) 1 (.slice A4 n4 c4) ⟨35,2,by simp⟩ (by simp)) (w.heap.size+1+1+1) 0 (.bool b5) ⟨35,2,by simp⟩).hsetL (((hh.set (w.heap.size+1+1) 0 (.bool b4) ⟨35,2,by simp⟩ (by simp)).set (w.heap.size+1+1) 1 (.slice A4 n4 c4) ⟨35,2,by simp⟩ (by simp)).set (w.heap.size+1+1+1) 0 (.bool b5) ⟨35,2,by simp⟩ (by simp)) (w.heap.size+1+1+1) 1 (.slice A5 n5 c5) ⟨35,2,by simp⟩);have s5:=((((hr5.sn.hsetL hh (w.heap.size+1+1) 0 (.bool b4) ⟨35,2,by simp⟩).hsetL (hh.set (w.heap.size+1+1) 0 (.bool b4) ⟨35,2,by simp⟩ (by simp)) (w.heap.size+1+1) 1 (.slice A4 n4 c4) ⟨35,2,by simp⟩).hsetL ((hh.set (w.heap.size+1+1) 0 (.bool b4) ⟨35,2,by simp⟩ (by simp)).set (w.heap.size+1+1) 1 (.slice A4 n4 c4) ⟨35,2,by simp⟩ (by simp)) (w.heap.size+1+1+1) 0 (.bool b5) ⟨35,2,by simp⟩).hsetL (((hh.set (w.heap.size+1+1) 0 (.bool b4) ⟨35,2,by simp⟩ (by simp)).set (w.heap.size+1+1) 1 (.slice A4 n4 c4) ⟨35,2,by simp⟩ (by simp)).set (w.heap.size+1+1+1) 0 (.bool b5) ⟨35,2,by simp⟩ (by simp)) (w.heap.size+1+1+1) 1 (.slice A5 n5 c5) ⟨35,2,by simp⟩);have r0:=e2.cell 0;have r1:=e2.cell 1;have r2:=e3.cell 0;have r3:=e3.cell 1;simp only [M2,M3,M0,M1] at r0 r1 r2 r3;generalize ((((w5.setCell ⟨w.heap.size+1+1,0,none⟩ (.bool b4)).setCell ⟨w.heap.size+1+1,1,none⟩ (.slice A4 n4 c4)).setCell ⟨w.heap.size+1+1+1,0,none⟩ (.bool b5)).setCell ⟨w.heap.size+1+1+1,1,none⟩ (.slice A5 n5 c5))=wf at *
 go_wp2
 refine bodyPost_ret (v:=.tuple #[.agg #[.bool b4,.slice A4 n4 c4],.agg #[.bool b5,.slice A5 n5 c5],.bool true]) (by simp [results,Tryz.results147,go_sem,r0,r1,r2,r3];try rfl) rfl ?_;refine ⟨⟨_,_,_,_,_,_,_,_,rfl,⟨hr4.sign.trans (by simp),s4⟩,⟨hr5.sign.trans (by simp),s5⟩⟩,HBB.o.trans (hg.below (by simp;try omega) (by omega))⟩
end Go.Proofs.YtdgleeglndcjhaaGreatDoor
