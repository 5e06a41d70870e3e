import Derived.Test.YtdgleeglndcjhaaGreatDoorX01
import Derived.Maps.Own
import Derived.Maps.OwnOps
import Derived.Maps.Views
import Derived.Maps.OwnSet
import Derived.Test.YtdgleeglndcjhaaGreatDoorX04
import Derived.Test.YtdgleeglndcjhaaGreatDoorX09
import Derived.Test.YtdgleeglndcjhaaGreatDoorX08
set_option linter.unusedSimpArgs false
set_option linter.unusedVariables false
set_option maxHeartbeats 8000000
set_option maxRecDepth 100000
namespace Go.Proofs.YtdgleeglndcjhaaGreatDoor
open Go.RowKit Go.Maps
abbrev rawR (v:Value):Option (DataW Value × List MemPlace):=some (.held v,[])
theorem law9:Keyed Tryz.prog 9:=string_keyed Tryz.underlying9
theorem zero125 (w:World):(zeroValue 125).run Tryz.prog w=.ok (.slice none 0 0) w:=by kernel_rfl
def MapF (w:World) (g n:Nat) (f:List UInt8→Value):Prop :=
 ∃ D:DataW Value,w.ownsMap Tryz.prog 9 rawR g n D∧∀ k:List UInt8,D.atKey (.string k) (.held (.slice none 0 0))=.held (f k)
theorem key9 (k:List UInt8) (h:k.length≤maxLen):keyOf Tryz.prog 9 (.string ⟨k.toArray⟩)=some (.string k):=by
 have:=WideMaps.keyOf_string_mk (P:=Tryz.prog) Tryz.underlying9 (s:=⟨k.toArray⟩) (by show k.toArray.size≤maxLen;simpa using h);exact this
theorem MapF.made (w:World):MapF (w.alloc (.map #[] 0)) w.heap.size 0 (fun _=>.slice none 0 0) :=
 ⟨_,World.ownsMap_made w Tryz.prog 9 rawR,fun k=>rfl⟩
theorem MapF.look {w:World} {g n:Nat} {f:List UInt8→Value} (h:MapF w g n f) (k:List UInt8) (hk:k.length≤maxLen):(Instr.lookup 126 (.map (some g)) (.string ⟨k.toArray⟩) false).run Tryz.prog w=.ok (f k) w:=by
 obtain ⟨D,ho,hf⟩:=h;obtain ⟨v,ps,hrun,hv⟩:=ho.lookup law9 Tryz.underlying126 (zero125 w) (zd:=.held (.slice none 0 0)) (zp:=[]) rfl (key9 k hk);rw [hf k] at hv;have e:v=f k:=by have:=hv;simp [rawR] at this;exact this.1
 rw [← e];exact hrun
theorem MapF.lt {w:World} {g n:Nat} {f:List UInt8→Value} (h:MapF w g n f):g<w.heap.size:=h.choose_spec.1.lt
theorem MapF.kept {w w':World} {g n:Nat} {f:List UInt8→Value} {row:Option Nat} (h:MapF w g n f) (hg:w.grownBy w' row) (hne:some g≠row):MapF w' g n f:=by
 obtain ⟨D,ho,hf⟩:=h;exact ⟨D,ho.kept hg hne,hf⟩
theorem MapF.below {w w':World} {g n:Nat} {f:List UInt8→Value} (h:MapF w g n f) (hb:Below w.heap.size w w'):MapF w' g n f :=
 h.kept (row:=none) ⟨hb.os,hb.tape,hb.output,hb.size,fun k hk _=>hb.block k hk⟩ (by simp)
theorem MapF.put {w:World} {g n:Nat} {f:List UInt8→Value} (h:MapF w g n f) (k:List UInt8) (v:Value) (hk:k.length≤maxLen) (hn:n<maxLen) :
  ∃ w',(Instr.mapUpdate 126 (.map (some g)) (.string ⟨k.toArray⟩) v).run Tryz.prog w=.ok () w'∧MapF w' g (n+1) (fun k'=>if k'=k then v else f k')∧w.grownBy w' (some g):=by
 obtain ⟨D,ho,hf⟩:=h;obtain ⟨w',hrun,h1,h2⟩:=ho.update law9 Tryz.underlying126 hn (key9 k hk) (d:=.held v) (ps:=[]) (val:=v) rfl;refine ⟨w',hrun,⟨_,h1,fun k'=>?_⟩,h2⟩;show _=DataW.held (if k'=k then v else f k');by_cases e:k'=k
 ·subst e;rw [if_pos rfl];exact atKey_put_same ho.isMap (by trivial) _ _
 ·rw [if_neg e,atKey_put_other (by simpa using e)];exact hf k'
theorem MapF.cell {w:World} {g n:Nat} {f:List UInt8→Value} (h:MapF w g n f) (o:Nat):w.cell? ⟨g,o,none⟩=none:=by
 obtain ⟨D,⟨es,clock,hb,-⟩,-⟩:=h;simp [World.cell?,hb]
end Go.Proofs.YtdgleeglndcjhaaGreatDoor
namespace Go.Proofs.YtdgleeglndcjhaaGreatDoor
open Go.RowKit
def az:Bs:=[97,98,99,100,101,102,103,104,105,106,107,108,109,110,111,112,113,114,115,116,117,118,119,120,121,122]
def langP (s:Bs):Bool:=decide (2≤s.length) && (decide (s.length≤3) && s.all fun b=>az.contains b)
theorem trim_nilC (l cs:Bs):Lib.trimS l cs=[]↔∀ b ∈ l,cs.contains b=true:=by
 unfold Lib.trimS Lib.trimLeftS Lib.trimRightS;constructor
 ·intro h;have h1:=(dropWhile_nil _ _).1 h;intro b hb;by_cases hd:cs.contains b=true
  ·exact hd
  ·exfalso;have hne:List.dropWhile (fun x=>cs.contains x) l.reverse≠[]:=fun e=>hd ((dropWhile_nil _ _).1 e b (by simpa using hb));obtain ⟨x,r,hx⟩:=List.exists_cons_of_ne_nil hne;have hh:=dropWhile_head _ _ hx;have:=h1 x (by rw [hx];simp);rw [this] at hh;cases hh
 ·intro h;have:List.dropWhile (fun x=>cs.contains x) l.reverse=[]:=(dropWhile_nil _ _).2 fun b hb=>h b (by simpa using hb);rw [this];rfl
theorem str_trim_az (s:ByteArray) (w:World) (hs:s.size≤1000000) :
  Calls Tryz.prog 128 #[.string s,.string ⟨#[97,98,99,100,101,102,103,104,105,106,107,108,109,110,111,112,113,114,115,116,117,118,119,120,121,122]⟩] w fun e w'=>e=.returned (.string ⟨(Lib.trimS s.data.toList az).toArray⟩)∧Below w.heap.size w w' :=
 Any.strings_Trim_laid Tryz.lays160 trim_table s ⟨#[97,98,99,100,101,102,103,104,105,106,107,108,109,110,111,112,113,114,115,116,117,118,119,120,121,122]⟩ w (by omega) (by decide) (ascii_of_all (by decide))
theorem plural_lang (w:World) (s:Bs) (hs:s.length≤1000000) :
  Calls Tryz.prog 120 #[.string ⟨s.toArray⟩] w fun e w'=>e=.returned (.bool (langP s))∧Below w.heap.size w w':=by
 have HL:Hid (langP s=(decide (2≤s.length) && (decide (s.length≤3) && s.all fun b=>az.contains b))):=rfl;by_cases h2:2≤s.length
 case neg =>
  have hI:¬ (2:Int)≤(s.length:Int):=by omega
  have hl:langP s=false:=by rw [HL.o];simp [h2]
  rw [hl];clear hl h2;go_enter Tryz.func120,Tryz.ntmps120;go_wp2_with fail;go_ret
  exact ⟨rfl,Below.refl _ _⟩
 have hI:(2:Int)≤(s.length:Int):=by omega
 by_cases h3:s.length≤3
 case neg =>
  have hI3:¬ (s.length:Int)≤3:=by omega
  have hl:langP s=false:=by rw [HL.o];simp [h3]
  rw [hl];clear hl h2 h3;go_enter Tryz.func120,Tryz.ntmps120;go_wp2_with fail;go_ret
  exact ⟨rfl,Below.refl _ _⟩
 have hI3:(s.length:Int)≤3:=by omega
 have hl:langP s=s.all fun b=>az.contains b:=by rw [HL.o];simp [h2,h3]
 have HLL:=qh hl;clear hl h2 h3;go_enter Tryz.func120,Tryz.ntmps120;go_wp2_with fail;refine (str_trim_az ⟨s.toArray⟩ w (by rw [Lib.size_eq];exact hs)).mono ?_;rw [show (⟨s.toArray⟩:ByteArray).data.toList=s from rfl];rintro e w1 ⟨rfl,hb⟩;have HB:=qh hb;clear hb;dsimp only;by_cases ht:Lib.trimS s az=[]
 ·have hte:(Lib.trimS s az).isEmpty=true:=by rw [ht];rfl
  have hv:langP s=true:=by rw [HLL.o,List.all_eq_true];exact (trim_nilC _ _).1 ht
  have HV:=qh hv;clear hv ht;go_wp2_with fail;go_ret
  exact ⟨by rw [HV.o];rfl,HB.o⟩
 ·have hte:(Lib.trimS s az).isEmpty=false:=by simpa using ht
  have hv:langP s=false:=by
   rw [HLL.o];cases h:s.all fun b=>az.contains b with
   | false=>rfl
   | true=>exact absurd ((trim_nilC _ _).2 (List.all_eq_true.1 h)) ht
  have HV:=qh hv;clear hv ht;go_wp2_with fail;go_ret
  exact ⟨by rw [HV.o];rfl,HB.o⟩
def catP (s:Bs):Bool:=decide (s=[122,101,114,111]) || decide (s=[111,110,101]) || decide (s=[116,119,111]) || decide (s=[102,101,119]) || decide (s=[109,97,110,121]) || decide (s=[111,116,104,101,114])
theorem plural_Category (w:World) (s:Bs):Calls Tryz.prog 36 #[.string ⟨s.toArray⟩] w fun e w'=>e=.returned (.bool (catP s))∧Below w.heap.size w w':=by
 have HL:Hid (catP s=(decide (s=[122,101,114,111]) || decide (s=[111,110,101]) || decide (s=[116,119,111]) || decide (s=[102,101,119]) || decide (s=[109,97,110,121]) || decide (s=[111,116,104,101,114]))):=rfl;by_cases h0:s=[122,101,114,111]
 ·have e0:(s == [122,101,114,111])=true:=by simpa using h0
  have hv:catP s=true:=by rw [HL.o];simp [h0]
  rw [hv];clear h0 hv;go_enter Tryz.func36,Tryz.ntmps36;go_wp2_with fail;go_ret
  exact ⟨rfl,Below.refl _ _⟩
 have e0:(s == [122,101,114,111])=false:=by simpa using h0
 by_cases h1:s=[111,110,101]
 ·have e1:(s == [111,110,101])=true:=by simpa using h1
  have hv:catP s=true:=by rw [HL.o];simp [h1]
  rw [hv];clear h1 hv;go_enter Tryz.func36,Tryz.ntmps36;go_wp2_with fail;go_ret
  exact ⟨rfl,Below.refl _ _⟩
 have e1:(s == [111,110,101])=false:=by simpa using h1
 by_cases h2:s=[116,119,111]
 ·have e2:(s == [116,119,111])=true:=by simpa using h2
  have hv:catP s=true:=by rw [HL.o];simp [h2]
  rw [hv];clear h2 hv;go_enter Tryz.func36,Tryz.ntmps36;go_wp2_with fail;go_ret
  exact ⟨rfl,Below.refl _ _⟩
 have e2:(s == [116,119,111])=false:=by simpa using h2
 by_cases h3:s=[102,101,119]
 ·have e3:(s == [102,101,119])=true:=by simpa using h3
  have hv:catP s=true:=by rw [HL.o];simp [h3]
  rw [hv];clear h3 hv;go_enter Tryz.func36,Tryz.ntmps36;go_wp2_with fail;go_ret
  exact ⟨rfl,Below.refl _ _⟩
 have e3:(s == [102,101,119])=false:=by simpa using h3
 by_cases h4:s=[109,97,110,121]
 ·have e4:(s == [109,97,110,121])=true:=by simpa using h4
  have hv:catP s=true:=by rw [HL.o];simp [h4]
  rw [hv];clear h4 hv;go_enter Tryz.func36,Tryz.ntmps36;go_wp2_with fail;go_ret
  exact ⟨rfl,Below.refl _ _⟩
 have e4:(s == [109,97,110,121])=false:=by simpa using h4
 by_cases h5:s=[111,116,104,101,114]
 ·have e5:(s == [111,116,104,101,114])=true:=by simpa using h5
  have hv:catP s=true:=by rw [HL.o];simp [h5]
  rw [hv];clear h5 hv;go_enter Tryz.func36,Tryz.ntmps36;go_wp2_with fail;go_ret
  exact ⟨rfl,Below.refl _ _⟩
 have e5:(s == [111,116,104,101,114])=false:=by simpa using h5
 have hv:catP s=false:=by rw [HL.o];simp [h0,h1,h2,h3,h4,h5]
 rw [hv];clear h0 h1 h2 h3 h4 h5 hv;go_enter Tryz.func36,Tryz.ntmps36;go_wp2_with fail;go_ret
 exact ⟨rfl,Below.refl _ _⟩
end Go.Proofs.YtdgleeglndcjhaaGreatDoor
namespace Go.Proofs.YtdgleeglndcjhaaGreatDoor
open Go.RowKit
abbrev Pe:=Bs × Value × Rl
def pcell (e:Pe):Value × Value:=(.string ⟨e.1.toArray⟩,e.2.1)
def prow (e:Pe):Bs × Rl:=(e.1,e.2.2)
def KeptR (lo:Nat) (w:World) (M:Nat→Prop) (e:Pe):Prop :=
 ∃ A n c rl,∃ w0:World,e.2.1=.slice A n c∧lo≤rl∧RuleAreB rl w0 A n c e.2.2∧w0.heap.size≤w.heap.size∧(∀ b,rl≤b→b<w0.heap.size→w.heap[b]?=w0.heap[b]?)∧∀ m,M m→m<rl∨w0.heap.size≤m
theorem KeptR.step {lo:Nat} {w w':World} {M M':Nat→Prop} {e:Pe} (h:KeptR lo w M e) (hs:w.heap.size≤w'.heap.size) (hk:∀ b,b<w.heap.size→¬ M b→w'.heap[b]?=w.heap[b]?) (hM:∀ m,M' m→M m∨w.heap.size≤m):KeptR lo w' M' e:=by
 obtain ⟨A,n,c,rl,w0,h1,h0,h2,h3,h4,h5⟩:=h;refine ⟨A,n,c,rl,w0,h1,h0,h2,Nat.le_trans h3 hs,fun b hb hb2=>?_,fun m hm=>?_⟩
 ·rw [hk b (by omega) (fun e=>by rcases h5 b e with h|h <;> omega),h4 b hb hb2]
 ·rcases hM m hm with h|h
  ·exact h5 m h
  ·right;omega
theorem KeptR.is {lo:Nat} {w:World} {M:Nat→Prop} {e:Pe} (h:KeptR lo w M e):∃ A n c,e.2.1=.slice A n c∧RuleIs w A n c e.2.2:=by
 obtain ⟨A,n,c,rl,w0,h1,-,h2,h3,h4,h5⟩:=h;exact ⟨A,n,c,h1,(h2.stable h3 h4).is⟩
def Mut (gm:Nat) (f:Bs→Value) (m:Nat):Prop:=m=gm∨∃ k,(f k).ownBlock=some m
structure PlI (W w:World) (gm n:Nat) (f:Bs→Value) (es:Bs→List Pe):Prop where
 map:MapF w gm n f
 lt:gm<W.heap.size
 gr:W.grownBy w (some gm)
 row:∀ k,w.ownsRow W.heap.size 130 2 (f k) (es k).length (cells2 ((es k).map pcell))
 apart:∀ k k' b,k≠k'→(f k).ownBlock=some b→(f k').ownBlock≠some b
 rule:∀ k e,e ∈ es k→KeptR W.heap.size w (Mut gm f) e
 few:∀ k,(es k).length≤n
theorem grown_of {w w':World} (hb:Below w.heap.size w w') (r:Option Nat):w.grownBy w' r:=⟨hb.os,hb.tape,hb.output,hb.size,fun k hk _=>hb.block k hk⟩
theorem PlI.mut_lt {W w:World} {gm n:Nat} {f:Bs→Value} {es:Bs→List Pe} (h:PlI W w gm n f es) {m:Nat} (hm:Mut gm f m):m<w.heap.size:=by
 rcases hm with rfl|⟨k,hk⟩
 ·exact h.map.lt
 ·exact (World.ownsRow.lt (h.row k) m hk).2
theorem PlI.below {W w w':World} {gm n:Nat} {f:Bs→Value} {es:Bs→List Pe} (h:PlI W w gm n f es) (hb:Below w.heap.size w w'):PlI W w' gm n f es :=
 ⟨h.map.below hb,h.lt,h.gr.trans (grown_of hb _),fun k=>own_kept_below (h.row k) hb,h.apart,fun k e he=>(h.rule k e he).step hb.size (fun b hlt _=>hb.block b hlt) (fun m hm=>.inl hm),h.few⟩
theorem PlI.start (w W:World) (gm:Nat) (hm:MapF W gm 0 (fun _=>.slice none 0 0)):PlI W W gm 0 (fun _=>.slice none 0 0) (fun _=>[]) :=
 ⟨hm,hm.lt,⟨rfl,rfl,rfl,ql,fun _ _ _=>rfl⟩,fun k=>World.ownsRow_nil _ _ _ _,fun k k' b _ h=>by simp [Value.ownBlock] at h,fun k e he=>(by cases he),fun k=>ql⟩
theorem PlI.push {W wa w w1 w2:World} {gm n g cap:Nat} {f:Bs→Value} {es:Bs→List Pe} {k:Bs} {c:Bs} {A:Option Addr} {rn rc:Nat} {r:Rl} (h:PlI W wa gm n f es) (hb:Below wa.heap.size wa w) (hr:RuleAreB wa.heap.size w A rn rc r)
  (hg:w.grownBy w1 (f k).ownBlock) (ho:w1.ownsRow W.heap.size 130 2 (.slice (some ⟨g,0,none⟩) ((es k).length+1) cap) ((es k).length+1) (cells2 ((es k).map pcell) ++ [.string ⟨c.toArray⟩,.slice A rn rc])) (hat:(f k).ownBlock=some g∨g=w.heap.size)
  (hm:MapF w2 gm (n+1) (fun k'=>if k'=k then .slice (some ⟨g,0,none⟩) ((es k).length+1) cap else f k')) (hg2:w1.grownBy w2 (some gm)) :
  PlI W w2 gm (n+1) (fun k'=>if k'=k then .slice (some ⟨g,0,none⟩) ((es k).length+1) cap else f k') (fun k'=>if k'=k then es k ++ [(c,.slice A rn rc,r)] else es k'):=by
 have hw:=h.below hb;have hgB:W.heap.size≤g:=(ho.lt g rfl).1;have hgm:gm<W.heap.size:=h.lt;have hne:∀ k',(f k').ownBlock≠some gm:=fun k' e=>by have:=(World.ownsRow.lt (hw.row k') gm e).1;omega
 have hmut:∀ m,Mut gm (fun k'=>if k'=k then .slice (some ⟨g,0,none⟩) ((es k).length+1) cap else f k') m→Mut gm f m∨w.heap.size≤m:=by
  rintro m (rfl|⟨k',hk'⟩)
  ·exact .inl (.inl rfl)
  ·dsimp only at hk';split at hk'
   ·obtain rfl:g=m:=by simpa [Value.ownBlock] using hk'
    rcases hat with e|e
    ·exact .inl (.inr ⟨k,e⟩)
    ·exact .inr (by omega)
   ·exact .inl (.inr ⟨k',hk'⟩)
 have hsame:∀ b,b<w.heap.size→¬ Mut gm f b→w2.heap[b]?=w.heap[b]?:=fun b hlt hnm=>by
  rw [hg2.block b (Nat.lt_of_lt_of_le hlt hg.size) (fun e=>hnm (.inl (by cases e;rfl))),hg.block b hlt (fun e=>hnm (.inr ⟨k,e.symm⟩))]
 have hsz:w.heap.size≤w2.heap.size:=Nat.le_trans hg.size hg2.size;refine ⟨hm,hgm,(grown_up hw.gr hg (fun j hj=>(World.ownsRow.lt (hw.row k) j hj).1)).trans hg2,fun k'=>?_,fun k1 k2 b hk12 hb1 hb2=>?_,fun k' e he=>?_,fun k'=>?_⟩
 ·skip;split
  ·rw [List.map_append,List.length_append,show [((c,.slice A rn rc,r):Pe)].map pcell=[pcell (c,.slice A rn rc,r)] from rfl,cells2_snoc];exact ho.kept hg2 (.inr (by simp only [Value.ownBlock,ne_eq,Option.some.injEq];omega))
  ·rename_i hk'
   have h1:=(hw.row k').kept hg (by
    cases e:(f k').ownBlock with
    | none=>exact .inl rfl
    | some j=>exact .inr (by rw [← e];intro e2;exact hw.apart k' k j hk' e (by rw [← e2];exact e)))
   exact h1.kept hg2 (by
    cases e:(f k').ownBlock with
    | none=>exact .inl rfl
    | some j=>exact .inr (by rw [← e];exact hne k'))
 ·skip;by_cases e1:k1=k <;> by_cases e2:k2=k
  ·exact hk12 (e1.trans e2.symm)
  ·rw [if_pos e1] at hb1;rw [if_neg e2] at hb2;obtain rfl:g=b:=by simpa [Value.ownBlock] using hb1
   rcases hat with e|e
   ·exact hw.apart k k2 g (fun e3=>e2 e3.symm) e hb2
   ·have:=(World.ownsRow.lt (hw.row k2) g hb2).2;omega
  ·rw [if_neg e1] at hb1;rw [if_pos e2] at hb2;obtain rfl:g=b:=by simpa [Value.ownBlock] using hb2
   rcases hat with e|e
   ·exact hw.apart k1 k g e1 hb1 e
   ·have:=(World.ownsRow.lt (hw.row k1) g hb1).2;omega
  ·rw [if_neg e1] at hb1;rw [if_neg e2] at hb2;exact hw.apart k1 k2 b hk12 hb1 hb2
 ·have key:KeptR W.heap.size w (Mut gm f) e∨e=(c,.slice A rn rc,r):=by
   skip;split at he
   ·rcases List.mem_append.1 he with h'|h'
    ·exact .inl (hw.rule k e h')
    ·exact .inr (List.mem_singleton.1 h')
   ·exact .inl (hw.rule k' e he)
  rcases key with h'|rfl
  ·exact h'.step hsz hsame hmut
  ·have:KeptR W.heap.size w (Mut gm f) (c,.slice A rn rc,r):=⟨A,rn,rc,wa.heap.size,w,rfl,h.gr.size,hr,ql,fun b _ _=>rfl,fun m hm=>.inl (h.mut_lt hm)⟩;exact this.step hsz hsame hmut
 ·skip;split
  ·have:=h.few k;simp;omega
  ·have:=h.few k';omega
theorem ints_equal (w:World) (A A':Option Addr) (n c n' c':Nat) (l l':List Int) (h:IntsAre w A n c l) (h':IntsAre w A' n' c' l') (hl:l.length≤1000000) (hl':l'.length≤1000000) :
  Calls Tryz.prog 102 #[.slice A n c,.slice A' n' c'] w fun e w'=>e=.returned (.bool (decide (l=l')))∧Below w.heap.size w w':=by
 obtain rfl:n=l.length:=h.len;obtain rfl:n'=l'.length:=h'.len;by_cases hn:l.length=l'.length
 ·by_cases h0:l.length=0
  ·have e1:l=[]:=List.eq_nil_of_length_eq_zero h0;have e2:l'=[]:=List.eq_nil_of_length_eq_zero (by omega);subst e1;subst e2;refine (Tryz.slices_Equal_int_empty A A' c 0 c' w (by omega)).mono ?_;rintro e w' ⟨rfl,rfl⟩;exact ⟨rfl,Below.refl _ _⟩
  ·obtain ⟨b,o,rfl,hc⟩:=h.at (by omega);obtain ⟨b',o',rfl,hc'⟩:=h'.at (by omega);refine (Tryz.slices_Equal_int b o l.length c b' o' l'.length c' l l' w ql ql (by omega) (by omega) (fun j hj=>hc j _ (by rw [List.getD_eq_getElem?_getD,List.getElem?_eq_getElem hj];rfl)) (fun j hj=>hc' j _ (by rw [List.getD_eq_getElem?_getD,List.getElem?_eq_getElem hj];rfl))).mono ?_;rintro e w' ⟨rfl,q,rfl⟩;refine ⟨?_,below_drews w q⟩;rw [List.take_length,List.take_length]
   congr 2
   rw [Bool.eq_iff_iff,beq_iff_eq,decide_eq_true_eq]
 ·refine (Tryz.slices_Equal_int_lens A A' l.length c l'.length c' w hn).mono ?_;rintro e w' ⟨rfl,rfl⟩;refine ⟨?_,Below.refl _ _⟩;rw [decide_eq_false (fun e=>hn (congrArg List.length e))]
theorem cnd_eq {a b:Cnd}:a=b↔a.letter=b.letter∧a.mod=b.mod∧a.nt=b.nt∧a.fr=b.fr∧a.to=b.to:=by
 cases a;cases b;simp
theorem rule_same (w:World) (a b:Cnd) (FA TA FB TB:Option Addr) (fn fc tn tc fm fd tm td:Nat) (hfa:IntsAre w FA fn fc a.fr) (hta:IntsAre w TA tn tc a.to) (hfb:IntsAre w FB fm fd b.fr) (htb:IntsAre w TB tm td b.to) (ha:SmallC a) (hb:SmallC b) :
  Calls Tryz.prog 62 #[.agg #[.int .u8 (a.letter:Int),.int .i64 a.mod,.bool a.nt,.slice FA fn fc,.slice TA tn tc],.agg #[.int .u8 (b.letter:Int),.int .i64 b.mod,.bool b.nt,.slice FB fm fd,.slice TB tm td]] w
   fun e w'=>e=.returned (.bool (decide (a=b)))∧Below w.heap.size w w':=by
 have hba:=((Below.refl w.heap.size w).alloc ql (.cells #[.int .u8 (a.letter:Int),.int .i64 a.mod,.bool a.nt,.slice FA fn fc,.slice TA tn tc] 47)).alloc (by simp) (.cells #[.int .u8 (b.letter:Int),.int .i64 b.mod,.bool b.nt,.slice FB fm fd,.slice TB tm td] 47);have HA:=qh hba;have HFA:=qh (hfa.below hba ql);have HTA:=qh (hta.below hba ql);have HFB:=qh (hfb.below hba ql);have HTB:=qh (htb.below hba ql);have HSA:=qh ha;have HSB:=qh hb;obtain ⟨la,ma,na,fa,ta⟩:=a;obtain ⟨lb,mb,nb,fb,tb⟩:=b;simp only at *
 clear hba hfa hta hfb htb ha hb;by_cases h1:la=lb
 ·subst h1;by_cases h2:ma=mb
  ·subst h2;by_cases h3:na=nb
   ·subst h3;go_enter Tryz.func62,Tryz.ntmps62;go_wp2_with fail;refine (ints_equal _ FA FB fn fc fm fd fa fb HFA.o HFB.o (Nat.le_trans HSA.o.nf (by omega)) (Nat.le_trans HSB.o.nf (by omega))).mono ?_;rintro e w3 ⟨rfl,hb3⟩;have b0:Blk ((w.alloc (.cells #[.int .u8 (la:Int),.int .i64 ma,.bool na,.slice FA fn fc,.slice TA tn tc] 47)).alloc (.cells #[.int .u8 (la:Int),.int .i64 ma,.bool na,.slice FB fm fd,.slice TB tm td] 47)) w.heap.size 47 [.int .u8 (la:Int),.int .i64 ma,.bool na,.slice FA fn fc,.slice TA tn tc]:=(Blk.made _ 47 _ _ _ rfl rfl).alloc _;have b1:Blk ((w.alloc (.cells #[.int .u8 (la:Int),.int .i64 ma,.bool na,.slice FA fn fc,.slice TA tn tc] 47)).alloc (.cells #[.int .u8 (la:Int),.int .i64 ma,.bool na,.slice FB fm fd,.slice TB tm td] 47)) (w.heap.size+1) 47 [.int .u8 (la:Int),.int .i64 ma,.bool na,.slice FB fm fd,.slice TB tm td]:=Blk.made _ 47 _ _ _ (by simp) rfl;obtain ⟨-,-,-,-,k0⟩:=(b0.below hb3 b0.lt).c5;obtain ⟨-,-,-,-,k1⟩:=(b1.below hb3 b1.lt).c5;have HB3:=qt HA hb3;have T1:=qh (HTA.o.below hb3 ql);have T2:=qh (HTB.o.below hb3 ql);clear b0 b1 hb3;by_cases hf:fa=fb
    ·rw [decide_eq_true hf];have HFF:=qh hf;clear hf;dsimp only;go_wp2_with fail;refine (ints_equal w3 TA TB tn tc tm td ta tb T1.o T2.o (Nat.le_trans HSA.o.nt (by omega)) (Nat.le_trans HSB.o.nt (by omega))).mono ?_;rintro e w4 ⟨rfl,hb4⟩;have HB4:=qt HB3 hb4;clear hb4 k0 k1;dsimp only;go_wp2_with fail;go_ret
     exact ⟨by simp [HFF.o],HB4.o⟩
    ·rw [decide_eq_false hf];have HFF:=qh hf;clear hf;dsimp only;go_wp2_with fail;go_ret
     exact ⟨by simp [HFF.o],HB3.o⟩
   ·have h3I:(na == nb)=false:=by simpa using h3
    go_enter Tryz.func62,Tryz.ntmps62;go_wp2_with fail;go_ret
    exact ⟨by simp [h3],HA.o⟩
  ·have h2I:(ma == mb)=false:=by simpa using h2
   go_enter Tryz.func62,Tryz.ntmps62;go_wp2_with fail;go_ret
   exact ⟨by simp [h2],HA.o⟩
 ·have h1I:((la:Int) == (lb:Int))=false:=by rw [beq_eq_false_iff_ne];omega
  go_enter Tryz.func62,Tryz.ntmps62;go_wp2_with fail;go_ret
  exact ⟨by simp [h1],HA.o⟩
def SmallL (l:List Cnd):Prop:=l.length≤1000∧∀ c ∈ l,SmallC c
theorem take_eq {α:Type} {l m:List α} {k:Nat} {a b:α} (hl:l[k]?=some a) (hm:m[k]?=some b):l.take (k+1)=m.take (k+1)↔l.take k=m.take k∧a=b:=by
 rw [List.take_add_one,List.take_add_one,hl,hm];constructor
 ·intro h;have h2:=List.append_inj' h rfl;exact ⟨h2.1,by simpa using h2.2⟩
 ·rintro ⟨h1,rfl⟩;rw [h1]
def EqW {α:Type} (W:World) (l m:List α) (i:Value) (wr:World):Prop:=∃ k:Nat,k≤l.length∧i=.int .i64 k∧l.take k=m.take k∧Below W.heap.size W wr
theorem conds_equal (w:World) (A B:Option Addr) (n c m d:Nat) (l l':List Cnd) (h:CondsIs w A n c l) (h':CondsIs w B m d l') (hs:SmallL l) (hs':SmallL l') :
  Calls Tryz.prog 61 #[.slice A n c,.slice B m d,.func (Fn.func 62) #[] #[]] w fun e w'=>e=.returned (.bool (decide (l=l')))∧Below w.heap.size w w':=by
 obtain rfl:n=l.length:=h.len;obtain rfl:m=l'.length:=h'.len;have HA:=qh h;have HB:=qh h';have HS:=qh hs;have HS':=qh hs';have hl:=hs.1;have hl':=hs'.1;have hlI:(l.length:Int)≤1000:=by omega
 have hlI':(l'.length:Int)≤1000:=by omega
 clear h h' hs hs';by_cases hn:l.length=l'.length
 ·have HN:=qh hn;have hnI:((l.length:Int) != (l'.length:Int))=false:=by rw [hn];simp
  clear hn;go_enter Tryz.func61,Tryz.ntmps61;go_wp2_with fail;go_loopw [17] (fun i wr=>EqW w l l' i wr) (fun i _=>l.length - (intOf i).toNat)
  case atStart=>exact ⟨0,Nat.zero_le _,rfl,rfl,Below.refl _ _⟩
  case round =>
   obtain ⟨k,hk,rfl,ht,hb⟩:=hrel;have HT:=qh ht;have HBR:=qh hb;clear ht hb;by_cases hlt:k<l.length
   ·obtain ⟨b,o,hA,hc⟩:=(HA.o.below HBR.o ql).at (by omega);obtain ⟨b',o',hB,hc'⟩:=(HB.o.below HBR.o ql).at (by have:=HN.o;omega);subst hA;subst hB;obtain ⟨x,hx⟩:∃ x,l[k]?=some x:=⟨l[k],List.getElem?_eq_getElem hlt⟩;obtain ⟨y,hy⟩:∃ y,l'[k]?=some y:=⟨l'[k]'(by have:=HN.o;omega),List.getElem?_eq_getElem _⟩;obtain ⟨FA,fn,fc,TA,tn,tc,hF,hT,c0,c1,c2,c3,c4⟩:=hc k x hx;obtain ⟨FB,fm,fd,TB,tm,td,hF',hT',d0,d1,d2,d3,d4⟩:=hc' k y hy;have HX:=qh hx;have HY:=qh hy;have HF:=qh hF;have HTT:=qh hT;have HF':=qh hF';have HT':=qh hT';have HXS:=qh (HS.o.2 x (List.mem_of_getElem? hx));have HYS:=qh (HS'.o.2 y (List.mem_of_getElem? hy));have hkI:(k:Int)<(l.length:Int):=by omega
    have hkJ:(k:Int)<(l'.length:Int):=by have:=HN.o;omega
    have hk0:(0:Int)≤(k:Int):=by omega
    have hzb:b'<wr.heap.size:=World.block_lt_of_cell? wr _ d0;have hzn:¬ b'=wr.heap.size:=by omega
    clear hc hc' hx hy hF hT hF' hT';go_wp2_with fail;have hba:=((Below.refl wr.heap.size wr).alloc ql (.cells #[.int .u8 (x.letter:Int),.int .i64 x.mod,.bool x.nt,.slice FA fn fc,.slice TA tn tc] 47)).alloc (by simp) (.cells #[.int .u8 (y.letter:Int),.int .i64 y.mod,.bool y.nt,.slice FB fm fd,.slice TB tm td] 47);refine (rule_same _ x y FA TA FB TB fn fc tn tc fm fd tm td (HF.o.below hba ql) (HTT.o.below hba ql) (HF'.o.below hba ql) (HT'.o.below hba ql) HXS.o HYS.o).mono ?_;rintro e w5 ⟨rfl,hb5⟩;have HB5:=qh (HBR.o.trans ((hba.trans (hb5.mono hba.size)).mono HBR.o.size));clear hba hb5 c0 c1 c2 c3 c4 d0 d1 d2 d3 d4 hzb hzn;by_cases hxy:x=y
    ·rw [decide_eq_true hxy];have HXY:=qh hxy;clear hxy;dsimp only;go_wp2_with fail;go_roundw
     case rel=>exact ⟨k+1,by omega,by go_num,(take_eq HX.o HY.o).2 ⟨HT.o,HXY.o⟩,HB5.o⟩
     case measure=>simp [intOf];omega
    ·rw [decide_eq_false hxy];have HXY:=qh hxy;clear hxy;dsimp only;go_wp2_with fail;go_ret
     refine ⟨?_,HB5.o⟩;rw [decide_eq_false (fun e=>HXY.o (by have h1:=HX.o;have h2:=HY.o;rw [e,h2] at h1;cases h1;rfl))]
     rfl
   ·have hkI:¬ (k:Int)<(l.length:Int):=by omega
    have he:l=l':=by have:=HT.o;rw [List.take_of_length_le (by omega),List.take_of_length_le (by have:=HN.o;omega)] at this;exact this
    have HE:=qh he;clear he;go_wp2_with fail;go_ret
    exact ⟨by rw [decide_eq_true HE.o];rfl,HBR.o⟩
 ·have hnI:((l.length:Int) != (l'.length:Int))=true:=by simp only [bne,Bool.not_eq_true',beq_eq_false_iff_ne];omega
  have hd:decide (l=l')=false:=decide_eq_false (fun e=>hn (congrArg List.length e));rw [hd];clear hd hn;go_enter Tryz.func61,Tryz.ntmps61;go_wp2_with fail;go_ret
  exact ⟨rfl,Below.refl _ _⟩
theorem good_1 (w:World) (A B:Option Addr) (n c m d:Nat) (l l':List Cnd) (h:CondsIs w A n c l) (h':CondsIs w B m d l') (hs:SmallL l) (hs':SmallL l') :
  Calls Tryz.prog 60 #[.slice A n c,.slice B m d] w fun e w'=>e=.returned (.bool (decide (l=l')))∧Below w.heap.size w w':=by
 have HC:=qh (conds_equal w A B n c m d l l' h h' hs hs');clear h h' hs hs';go_enter Tryz.func60,Tryz.ntmps60;go_wp2_with fail;refine HC.o.mono ?_;rintro e w1 ⟨rfl,hb⟩;have HB:=qh hb;clear hb HC;dsimp only;go_wp2_with fail;go_ret
 exact ⟨rfl,HB.o⟩
theorem rows_equal (w:World) (A B:Option Addr) (n c m d:Nat) (l l':Rl) (h:RuleIs w A n c l) (h':RuleIs w B m d l') (hs:SmallR l) (hs':SmallR l') :
  Calls Tryz.prog 59 #[.slice A n c,.slice B m d,.func (Fn.func 60) #[] #[]] w fun e w'=>e=.returned (.bool (decide (l=l')))∧Below w.heap.size w w':=by
 obtain rfl:n=l.length:=h.len;obtain rfl:m=l'.length:=h'.len;have HA:=qh h;have HB:=qh h';have HS:=qh hs;have HS':=qh hs';have hl:=hs.len;have hl':=hs'.len;have hlI:(l.length:Int)≤1000:=by omega
 have hlI':(l'.length:Int)≤1000:=by omega
 clear h h' hs hs';by_cases hn:l.length=l'.length
 ·have HN:=qh hn;have hnI:((l.length:Int) != (l'.length:Int))=false:=by rw [hn];simp
  clear hn;go_enter Tryz.func59,Tryz.ntmps59;go_wp2_with fail;go_loopw [17] (fun i wr=>EqW w l l' i wr) (fun i _=>l.length - (intOf i).toNat)
  case atStart=>exact ⟨0,Nat.zero_le _,rfl,rfl,Below.refl _ _⟩
  case round =>
   obtain ⟨k,hk,rfl,ht,hb⟩:=hrel;have HT:=qh ht;have HBR:=qh hb;clear ht hb;by_cases hlt:k<l.length
   ·obtain ⟨b,o,hA,hc⟩:=(HA.o.below HBR.o ql).at (by omega);obtain ⟨b',o',hB,hc'⟩:=(HB.o.below HBR.o ql).at (by have:=HN.o;omega);subst hA;subst hB;obtain ⟨x,hx⟩:∃ x,l[k]?=some x:=⟨l[k],List.getElem?_eq_getElem hlt⟩;obtain ⟨y,hy⟩:∃ y,l'[k]?=some y:=⟨l'[k]'(by have:=HN.o;omega),List.getElem?_eq_getElem _⟩;obtain ⟨xA,xn,xc,c0,hX⟩:=hc k x hx;obtain ⟨yA,yn,yc,d0,hY⟩:=hc' k y hy;have HX:=qh hx;have HY:=qh hy;have CX:=qh hX;have CY:=qh hY;have HXS:=qh (HS.o.rows x (List.mem_of_getElem? hx));have HYS:=qh (HS'.o.rows y (List.mem_of_getElem? hy));have hkI:(k:Int)<(l.length:Int):=by omega
    have hkJ:(k:Int)<(l'.length:Int):=by have:=HN.o;omega
    have hk0:(0:Int)≤(k:Int):=by omega
    clear hc hc' hx hy hX hY;go_wp2_with fail;refine (good_1 wr xA yA xn xc yn yc x y CX.o CY.o HXS.o HYS.o).mono ?_;rintro e w5 ⟨rfl,hb5⟩;have HB5:=qt HBR hb5;clear hb5 c0 d0;by_cases hxy:x=y
    ·rw [decide_eq_true hxy];have HXY:=qh hxy;clear hxy;dsimp only;go_wp2_with fail;go_roundw
     case rel=>exact ⟨k+1,by omega,by go_num,(take_eq HX.o HY.o).2 ⟨HT.o,HXY.o⟩,HB5.o⟩
     case measure=>simp [intOf];omega
    ·rw [decide_eq_false hxy];have HXY:=qh hxy;clear hxy;dsimp only;go_wp2_with fail;go_ret
     refine ⟨?_,HB5.o⟩;rw [decide_eq_false (fun e=>HXY.o (by have h1:=HX.o;have h2:=HY.o;rw [e,h2] at h1;cases h1;rfl))]
     rfl
   ·have hkI:¬ (k:Int)<(l.length:Int):=by omega
    have he:l=l':=by have:=HT.o;rw [List.take_of_length_le (by omega),List.take_of_length_le (by have:=HN.o;omega)] at this;exact this
    have HE:=qh he;clear he;go_wp2_with fail;go_ret
    exact ⟨by rw [decide_eq_true HE.o];rfl,HBR.o⟩
 ·have hnI:((l.length:Int) != (l'.length:Int))=true:=by simp only [bne,Bool.not_eq_true',beq_eq_false_iff_ne];omega
  have hd:decide (l=l')=false:=decide_eq_false (fun e=>hn (congrArg List.length e));rw [hd];clear hd hn;go_enter Tryz.func59,Tryz.ntmps59;go_wp2_with fail;go_ret
  exact ⟨rfl,Below.refl _ _⟩
theorem len_le_join (sep:Bs):∀ ws:List Bs,∀ w ∈ ws,w.length≤(Lib.join ws sep).length
 | [],w,h=>by cases h
 | x :: r,w,h=>by
  rw [Lib.join_length]
  have aux:∀ l:List Bs,∀ w ∈ l,w.length≤Lib.lens l:=by
   intro l
   induction l with
   | nil=>intro w h;cases h
   | cons a l ih =>
    intro w h;simp only [Lib.lens,List.map_cons,List.sum_cons] at ih ⊢;rcases List.mem_cons.1 h with rfl|h
    ·omega
    ·have:=ih w h;omega
  have:=aux _ w h;omega
theorem many_le_join (b:UInt8) (sep:Bs):∀ ws:List Bs,ws.length≤(Lib.join ws (b :: sep)).length+1
 | []=>by simp
 | x :: r=>by
  rw [Lib.join_length];have:r.length≤(b :: sep).length * r.length:=Nat.le_mul_of_pos_left _ (by simp);simp only [List.length_cons] at *
  omega
theorem smallC_of {c:Cnd} (h:Valid c) (hl:(writeC c).length≤256):SmallC c:=by
 obtain ⟨⟨l,hl1,h1⟩,⟨m,h2,hm⟩,⟨L,h0,h3,h4,h5⟩⟩:=h
 have hj:(Lib.join (items c.fr c.to) [44]).length≤256:=by
  unfold writeC at hl;simp only [List.length_append] at hl;omega
 have hm2:=many_le_join 44 [] (items c.fr c.to);rw [items_len] at hm2;have e1:c.fr.length=L.length:=by rw [h3];simp
 have e2:c.to.length=L.length:=by rw [h4];simp
 refine ⟨by rw [h1];exact l.toNat_lt,by rw [h2];constructor <;> omega,fun x hx=>?_,fun x hx=>?_,by omega,by omega⟩
 ·rw [h3] at hx;obtain ⟨e,he,rfl⟩:=List.mem_map.1 hx;have:=h5 e he;constructor <;> omega
 ·rw [h4] at hx;obtain ⟨e,he,rfl⟩:=List.mem_map.1 hx;have:=h5 e he;constructor <;> omega
theorem smallR_of {r:Rl} (h:ValidR r) (hl:(writeR r).length≤256):SmallR r:=by
 have h1:=many_le_join 32 [111,114,32] (r.map writeL);have e1:(Lib.join (r.map writeL) [32,111,114,32]).length≤256:=hl;refine ⟨by simp at h1;omega,fun l hll=>?_⟩;have h2:=len_le_join [32,111,114,32] (r.map writeL) (writeL l) (List.mem_map_of_mem hll);have h3:=many_le_join 32 [97,110,100,32] (l.map writeC);have e2:(Lib.join (l.map writeC) [32,97,110,100,32]).length≤256:=by show (writeL l).length≤256;omega
 refine ⟨by simp at h3;omega,fun c hc=>smallC_of ((h.rows l hll).2 c hc) ?_⟩;have h4:=len_le_join [32,97,110,100,32] (l.map writeC) (writeC c) (List.mem_map_of_mem hc);omega
theorem smallR_good {r:Rl} (h:goodR r=true):SmallR r:=by
 have e:parseR (writeR r)=(0,r):=of_decide_eq_true h;exact smallR_of (goodR_valid h) (parseR_ok e).1
theorem smallR_nil:SmallR []:=⟨by simp,fun l h=>by cases h⟩
theorem parseR_cases (s:Bs):(∃ r,parseR s=(0,r)∧SmallR r)∨∃ e,parseR s=(e,[])∧(e=2∨e=11):=by
 unfold parseR;split
 ·exact .inr ⟨11,rfl,.inr rfl⟩
 ·rename_i hl;split
  ·exact .inr ⟨2,rfl,.inl rfl⟩
  ·rename_i r hr;have:=rule?_some hr;exact .inl ⟨r,rfl,smallR_of this.1 (by omega)⟩
theorem rule_Good (w:World) (A:Option Addr) (n c:Nat) (r:Rl) (hG:GW w) (h:RuleIs w A n c r) (hs:SmallR r) :
  Calls Tryz.prog 17 #[.agg #[.slice A n c]] w fun e w'=>e=.returned (.bool (goodR r))∧Below w.heap.size w w':=by
 have HG:=qh hG;have HX:=qh h;have HS:=qh hs;clear hG h hs;go_enter Tryz.func17,Tryz.ntmps17;go_upto_region 1 with fail;refine wp_letter (fun w1=>Blk w1 w.heap.size 30 [.slice A n c]∧Below w.heap.size w w1) ⟨Blk.made _ 30 _ _ _ rfl rfl,(Below.refl _ _).alloc ql _⟩ ?_;rintro w1 ⟨b0,hb⟩;have B0:=qh b0;have HB:=qh hb;have k0:=b0.c1;clear b0 hb;go_wp2_with fail;refine (rule_write w1 A n c r (HG.o.below HB.o ql) (HX.o.below HB.o ql) HS.o).mono ?_;rintro e w2 ⟨rfl,hb2⟩;have HB2:=qt HB hb2;have B2:=qh (B0.o.below hb2 B0.o.lt);clear hb2 k0 B0 HB;dsimp only;go_wp2_with fail;refine (rule_Parse w2 ⟨(writeR r).toArray⟩ (HG.o.below HB2.o ql)).mono ?_;rintro e w3 ⟨A3,n3,c3,rfl,hr3,hb3⟩;have hpe:(⟨(writeR r).toArray⟩:ByteArray).data.toList=writeR r:=rfl;rw [hpe] at hr3 ⊢;have HB3:=qt HB2 hb3;have B3:=qh (B2.o.below hb3 B2.o.lt);have HR3:=qh hr3;clear hb3 hr3 B2 HB2 hpe;rcases parseR_cases (writeR r) with ⟨r',hp,hs'⟩|⟨e0,hp,he0⟩
 ·have HP:=qh hp;have HS':=qh hs';rw [hp];have HR4:Hid (RuleAre w3 A3 n3 c3 r'):=by have:=HR3.o;rw [hp] at this;exact this.are
  have hgr:goodR r=decide (r=r'):=by
   unfold goodR;rw [hp];rw [decide_eq_decide];constructor
   ·intro h;exact (Prod.mk.inj h).2.symm
   ·intro h;rw [h]
  have HGR:=qh hgr;have k3:=B3.o.c1;have hz3:=B3.o.lt;clear hp hs' hgr HR3;dsimp only;go_wp2_with fail;have hba:=(Below.refl w3.heap.size w3).alloc ql (.cells #[.slice A3 n3 c3] 30);refine (rows_equal _ A A3 n c n3 c3 r r' ((HX.o.below HB3.o ql).below hba ql) (HR4.o.is.below hba ql) HS.o HS'.o).mono ?_;rintro e w5 ⟨rfl,hb5⟩;have HB5:=qh (HB3.o.trans ((hba.trans (hb5.mono hba.size)).mono HB3.o.size));clear hba hb5 k3;dsimp only;go_wp2_with fail;go_ret
  exact ⟨by rw [HGR.o];rfl,HB5.o⟩
 ·have hgr:goodR r=false:=by
   unfold goodR;rw [hp];refine decide_eq_false fun h=>?_;have:=(Prod.mk.inj h).1;omega
  rw [hp];have HGR:=qh hgr;have heI:((e0:Int) == 0)=false:=by rw [beq_eq_false_iff_ne];omega
  have k3:=B3.o.c1;have hz3:=B3.o.lt;clear hp hgr HR3;dsimp only;go_wp2_with fail;go_ret
  exact ⟨by rw [HGR.o];rfl,HB3.o.alloc HB3.o.size _⟩
end Go.Proofs.YtdgleeglndcjhaaGreatDoor
