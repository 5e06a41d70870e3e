import Derived.Test.YtdgleeglndcjhaaGreatDoorX06
import Derived.Laws.IdiomStrings
import Derived.Deep.CutBlock
set_option linter.unusedSimpArgs false
set_option linter.unusedVariables false
set_option maxHeartbeats 8000000
set_option maxRecDepth 100000
namespace Go.Proofs.YtdgleeglndcjhaaGreatDoor
open Go.RowKit
theorem Tryz_info47:(Tryz.prog.info? 47).map (fun i=>(i.zero,i.size,i.bytes))=some (some (.agg #[.int .u8 0,.int .i64 0,.bool false,.slice none 0 0,.slice none 0 0]),5,72):=by kernel_rfl
theorem Tryz_info48:(Tryz.prog.info? 48).map (fun i=>(i.zero,i.size,i.bytes))=some (some (.slice none 0 0),1,24):=by kernel_rfl
abbrev E3:=Cnd × Value × Value
def five (e:E3):List Value:=[.int .u8 (e.1.letter:Int),.int .i64 e.1.mod,.bool e.1.nt,e.2.1,e.2.2]
def cellsC:List E3→List Value
 | []=>[]
 | e :: es=>five e ++ cellsC es
theorem cellsC_len:∀ es:List E3,(cellsC es).length=es.length * 5
 | []=>rfl
 | e :: es=>by simp only [cellsC,List.length_append,cellsC_len es,List.length_cons,five,List.length_nil];omega
theorem cellsC_snoc:∀ (es:List E3) (e:E3),cellsC (es ++ [e])=cellsC es ++ five e
 | [],e=>by simp [cellsC]
 | a :: es,e=>by simp only [List.cons_append,cellsC,cellsC_snoc es e,List.append_assoc]
theorem cellsC_at:∀ (es:List E3) (j i:Nat) (e:E3),es[j]?=some e→i<5→(cellsC es)[j * 5+i]?=(five e)[i]?
 | [],j,i,e,h,hi=>by simp at h
 | a :: es,0,i,e,h,hi=>by
  have:a=e:=by simpa using h
  subst this;simp only [cellsC,Nat.zero_mul,Nat.zero_add];rw [List.getElem?_append_left (by simp [five];omega)]
 | a :: es,j+1,i,e,h,hi=>by
  simp only [cellsC];rw [List.getElem?_append_right (by simp [five];omega)];rw [← cellsC_at es j i e (by simpa using h) hi]
  congr 1;simp [five];omega
def IntsOk (w:World) (B:Nat) (e:E3):Prop:=IntsB w B e.2.1 e.1.fr∧IntsB w B e.2.2 e.1.to∧(∃ A n c,e.2.1=.slice A n c)∧(∃ A n c,e.2.2=.slice A n c)
theorem IntsOk.kept {w w':World} {B:Nat} {e:E3} (h:IntsOk w B e) (hs:w.heap.size≤w'.heap.size) (hk:∀ k,e.2.1.ownBlock=some k∨e.2.2.ownBlock=some k→w'.heap[k]?=w.heap[k]?):IntsOk w' B e :=
 ⟨h.1.kept hs fun k h'=>hk k (.inl h'),h.2.1.kept hs fun k h'=>hk k (.inr h'),h.2.2⟩
theorem IntsOk.lt {w:World} {B:Nat} {e:E3} (h:IntsOk w B e) {k:Nat} (hk:e.2.1.ownBlock=some k∨e.2.2.ownBlock=some k):B≤k∧k<w.heap.size:=by
 rcases hk with hk|hk
 ·exact h.1.2 k hk
 ·exact h.2.1.2 k hk
theorem IntsOk.mono {w:World} {B B':Nat} {e:E3} (h:IntsOk w B e) (hB:B'≤B):IntsOk w B' e:=⟨h.1.mono hB,h.2.1.mono hB,h.2.2⟩
structure OwnC (w:World) (B:Nat) (v:Value) (es:List E3):Prop where
 own:w.ownsRow B 47 5 v es.length (cellsC es)
 ok:∀ e ∈ es,IntsOk w B e
 apart:∀ e ∈ es,∀ k,e.2.1.ownBlock=some k∨e.2.2.ownBlock=some k→v.ownBlock≠some k
theorem OwnC.nil (w:World) (B:Nat):OwnC w B (.slice none 0 0) []:=⟨World.ownsRow_nil _ _ _ _,fun e h=>(by cases h),fun e h=>(by cases h)⟩
theorem OwnC.below {w w':World} {B:Nat} {v:Value} {es:List E3} (h:OwnC w B v es) (hb:Below w.heap.size w w'):OwnC w' B v es:=by
 have hg:w.grownBy w' none:=⟨hb.os,hb.tape,hb.output,hb.size,fun k hk _=>hb.block k hk⟩;refine ⟨h.own.kept hg ?_,fun e he=>(h.ok e he).kept hb.size fun k hk=>hb.block k ((h.ok e he).lt hk).2,h.apart⟩;cases e:v.ownBlock with
 | none=>exact .inl rfl
 | some k=>exact .inr (by simp)
theorem OwnC.alloc {w:World} {B:Nat} {v:Value} {es:List E3} (h:OwnC w B v es) (o:Obj):OwnC (w.alloc o) B v es:=h.below ((Below.refl _ _).alloc ql _)
theorem OwnC.push {w w1:World} {B g cap:Nat} {v:Value} {es:List E3} {e:E3} (h:OwnC w B v es) (he:IntsOk w B e) (ha:∀ k,e.2.1.ownBlock=some k∨e.2.2.ownBlock=some k→v.ownBlock≠some k)
  (hg:w.grownBy w1 v.ownBlock) (ho:w1.ownsRow B 47 5 (.slice (some ⟨g,0,none⟩) (es.length+1) cap) (es.length+1) (cellsC es ++ five e)) (hat:v.ownBlock=some g∨g=w.heap.size) :
  OwnC w1 B (.slice (some ⟨g,0,none⟩) (es.length+1) cap) (es ++ [e]):=by
 have kept:∀ e':E3,IntsOk w B e'→(∀ k,e'.2.1.ownBlock=some k∨e'.2.2.ownBlock=some k→v.ownBlock≠some k)→IntsOk w1 B e':=fun e' hi hap =>
  hi.kept hg.size fun k hk=>hg.block k (hi.lt hk).2 (Ne.symm (hap k hk))
 have apart:∀ e':E3,IntsOk w B e'→(∀ k,e'.2.1.ownBlock=some k∨e'.2.2.ownBlock=some k→v.ownBlock≠some k)→∀ k,e'.2.1.ownBlock=some k∨e'.2.2.ownBlock=some k→some g≠some k:=by
  intro e' hi hap k hk hgk;rcases hat with h'|h'
  ·exact hap k hk (h'.trans hgk)
  ·have:=(hi.lt hk).2;cases hgk;omega
 refine ⟨?_,fun e' he'=>?_,fun e' he'=>?_⟩
 ·rw [cellsC_snoc,List.length_append];exact ho
 ·rcases List.mem_append.1 he' with h'|h'
  ·exact kept e' (h.ok e' h') (h.apart e' h')
  ·obtain rfl:e'=e:=by simpa using h'
   exact kept e' he ha
 ·rcases List.mem_append.1 he' with h'|h'
  ·exact apart e' (h.ok e' h') (h.apart e' h')
  ·obtain rfl:e'=e:=by simpa using h'
   exact apart e' he ha
def CondsB (w:World) (B:Nat) (v:Value) (l:List Cnd):Prop :=
 ∃ es:List E3,es.map (·.1)=l∧SlC w v 5 es.length (cellsC es)∧(∀ e ∈ es,IntsOk w B e)∧∀ k,v.ownBlock=some k→B≤k∧k<w.heap.size
theorem OwnC.conds {w:World} {B:Nat} {v:Value} {es:List E3} (h:OwnC w B v es):CondsB w B v (es.map (·.1)) :=
 ⟨es,rfl,SlC.own h.own,h.ok,fun k hk=>World.ownsRow.lt h.own k hk⟩
theorem SlC.stable {w w':World} {v:Value} {sz n:Nat} {cs:List Value} (h:SlC w v sz n cs) (hk:∀ k,v.ownBlock=some k→k<w.heap.size→w'.heap[k]?=w.heap[k]?):SlC w' v sz n cs:=by
 obtain ⟨A,c,rfl,h2,h3,h4⟩:=h;refine ⟨A,c,rfl,h2,h3,fun hp=>?_⟩;obtain ⟨b,o,rfl,h6⟩:=h4 hp;refine ⟨b,o,rfl,fun j x hx=>?_⟩;rw [← h6 j x hx];unfold World.cell?;rw [hk b rfl (World.block_lt_of_cell? w _ (h6 j x hx))]
theorem CondsB.stable {w w':World} {B:Nat} {v:Value} {l:List Cnd} (h:CondsB w B v l) (hs:w.heap.size≤w'.heap.size) (hk:∀ b,B≤b→b<w.heap.size→w'.heap[b]?=w.heap[b]?):CondsB w' B v l:=by
 obtain ⟨es,h1,h2,h3,h4⟩:=h;exact ⟨es,h1,h2.stable fun k h' _=>hk k (h4 k h').1 (h4 k h').2,fun e he=>(h3 e he).kept hs fun k h'=>hk k ((h3 e he).lt h').1 ((h3 e he).lt h').2,fun k h'=>⟨(h4 k h').1,Nat.lt_of_lt_of_le (h4 k h').2 hs⟩⟩
theorem CondsB.form {w:World} {B:Nat} {v:Value} {l:List Cnd} (h:CondsB w B v l):∃ A n c,v=.slice A n c:=by
 obtain ⟨es,h1,⟨A,c,rfl,-⟩,-⟩:=h;exact ⟨A,_,c,rfl⟩
def RowK (w:World) (v:Value) (T:Nat) (x:Value) (l:List Cnd):Prop :=
 ∃ lo,∃ w0:World,CondsB w0 lo x l∧w0.heap.size≤w.heap.size∧T<lo∧(∀ b,lo≤b→b<w0.heap.size→w.heap[b]?=w0.heap[b]?)∧∀ k,v.ownBlock=some k→k<lo∨w0.heap.size≤k
theorem RowK.step {w w':World} {v v':Value} {T:Nat} {x:Value} {l:List Cnd} (h:RowK w v T x l) (hs:w.heap.size≤w'.heap.size) (hk:∀ b,b<w.heap.size→T<b→some b≠v.ownBlock→w'.heap[b]?=w.heap[b]?)
  (hv:v'.ownBlock=v.ownBlock∨∃ k,v'.ownBlock=some k∧w.heap.size≤k):RowK w' v' T x l:=by
 obtain ⟨lo,w0,h1,h2,h3,h4,h5⟩:=h;refine ⟨lo,w0,h1,Nat.le_trans h2 hs,h3,fun b hb hb2=>?_,fun k h'=>?_⟩
 ·rw [hk b (by omega) (by omega) ?_,h4 b hb hb2];intro e;rcases h5 b e.symm with h|h <;> omega
 ·rcases hv with e|⟨k',e,hle⟩
  ·exact h5 k (by rw [← e];exact h')
  ·rw [e] at h';cases h';right;omega
theorem RowK.condsT {w:World} {v:Value} {T:Nat} {x:Value} {l:List Cnd} (h:RowK w v T x l):∃ lo,T<lo∧CondsB w lo x l:=by
 obtain ⟨lo,w0,h1,h2,h3,h4,-⟩:=h;exact ⟨lo,h3,h1.stable h2 h4⟩
def RuleAre (w:World) (A:Option Addr) (n c:Nat) (r:Rl):Prop :=
 ∃ xs:List Value,SlC w (.slice A n c) 1 r.length xs∧F2 (fun x l=>∃ lo,CondsB w lo x l) xs r
def RuleAreB (lo:Nat) (w:World) (A:Option Addr) (n c:Nat) (r:Rl):Prop :=
 ∃ xs:List Value,SlC w (.slice A n c) 1 r.length xs∧(∀ k,Value.ownBlock (.slice A n c)=some k→lo≤k∧k<w.heap.size)∧F2 (fun x l=>CondsB w lo x l) xs r
theorem RuleAreB.are {lo:Nat} {w:World} {A:Option Addr} {n c:Nat} {r:Rl} (h:RuleAreB lo w A n c r):RuleAre w A n c r:=by
 obtain ⟨xs,h1,-,h2⟩:=h;exact ⟨xs,h1,h2.mono fun x l h=>⟨lo,h⟩⟩
theorem RuleAreB.stable {lo:Nat} {w w':World} {A:Option Addr} {n c:Nat} {r:Rl} (h:RuleAreB lo w A n c r) (hs:w.heap.size≤w'.heap.size) (hk:∀ b,lo≤b→b<w.heap.size→w'.heap[b]?=w.heap[b]?):RuleAreB lo w' A n c r:=by
 obtain ⟨xs,h1,h2,h3⟩:=h;exact ⟨xs,h1.stable fun k hk' hlt=>hk k (h2 k hk').1 hlt,fun k hk'=>⟨(h2 k hk').1,Nat.lt_of_lt_of_le (h2 k hk').2 hs⟩,h3.mono fun x l h=>h.stable hs hk⟩
theorem RuleAreB.nil (lo:Nat) (w:World):RuleAreB lo w none 0 0 []:=⟨[],SlC.nil _ _ _ _,fun k h=>by simp [Value.ownBlock] at h,.nil⟩
def ParsePost (w:World) (s:Bs) (e:Ending) (w':World):Prop :=
 ∃ A n c,e=.returned (.tuple #[.agg #[.slice A n c],.int .i64 ((parseR s).1:Int)])∧RuleAreB w.heap.size w' A n c (parseR s).2∧Below w.heap.size w w'
structure OutI (w W3 wr:World) (rows:List (List Bs)) (k:Nat) (vOr:Value) (xs:List Value) (R:Rl):Prop where
 parsed:all? row? (rows.take k)=some R
 res:Blk wr w.heap.size 30 [.slice none 0 0]
 rule:Blk wr (w.heap.size+1) 30 [vOr]
 own:wr.ownsRow W3.heap.size 48 1 vOr R.length xs
 two:w.heap.size+2≤W3.heap.size
 gr:W3.grownBy wr (some (w.heap.size+1))
 rows:F2 (RowK wr vOr (w.heap.size+1)) xs R
 bel:Below w.heap.size w wr
theorem own_kept_below {w w':World} {B:Nat} {e:TypeId} {sz n:Nat} {v:Value} {xs:List Value} (h:w.ownsRow B e sz v n xs) (hb:Below w.heap.size w w'):w'.ownsRow B e sz v n xs:=by
 have hg:w.grownBy w' none:=⟨hb.os,hb.tape,hb.output,hb.size,fun k hk _=>hb.block k hk⟩;refine h.kept hg ?_;cases e:v.ownBlock with
 | none=>exact .inl rfl
 | some k=>exact .inr (by simp)
theorem OutI.below {w W3 wr w':World} {rows:List (List Bs)} {k:Nat} {vOr:Value} {xs:List Value} {R:Rl} (h:OutI w W3 wr rows k vOr xs R) (hb:Below wr.heap.size wr w'):OutI w W3 w' rows k vOr xs R :=
 ⟨h.parsed,h.res.below hb h.res.lt,h.rule.below hb h.rule.lt,own_kept_below h.own hb,h.two,h.gr.trans ⟨hb.os,hb.tape,hb.output,hb.size,fun k hk _=>hb.block k hk⟩,h.rows.mono fun x l k=>k.step hb.size (fun b hb' _ _=>hb.block b hb') (.inl rfl),h.bel.trans (hb.mono h.bel.size)⟩
theorem OutI.push {w W3 wr w1 w2:World} {rows:List (List Bs)} {row:List Bs} {k:Nat} {vOr:Value} {xs:List Value} {R:Rl} {g cap:Nat} {x:Value} {l:List Cnd} (h:OutI w W3 wr rows k vOr xs R)
  (hrow:rows[k]?=some row) (hr:row? row=some l) (hb:Below wr.heap.size wr w1) (hc:CondsB w1 wr.heap.size x l) (hg:w1.grownBy w2 vOr.ownBlock)
  (ho:w2.ownsRow W3.heap.size 48 1 (.slice (some ⟨g,0,none⟩) (R.length+1) cap) (R.length+1) (xs ++ [x])) (hat:vOr.ownBlock=some g∨g=w1.heap.size) :
  OutI w W3 (w2.setCell ⟨w.heap.size+1,0,none⟩ (.slice (some ⟨g,0,none⟩) (R.length+1) cap)) rows (k+1) (.slice (some ⟨g,0,none⟩) (R.length+1) cap) (xs ++ [x]) (R ++ [l]) ∧
   w2.cell? ⟨w.heap.size+1,0,none⟩=some vOr∧w2.frozen? ⟨w.heap.size+1,0,none⟩=false:=by
 have h1:=h.below hb;have hne:∀ j,j<w.heap.size+2→some j≠vOr.ownBlock:=fun j hj e=>by have:=(h.own.lt j e.symm).1;have:=h.two;omega
 have b0:=h1.res.kept hg (hne _ (by omega));have b1:=h1.rule.kept hg (hne _ (by omega));have hgb:w.heap.size+2≤g:=Nat.le_trans h.two (ho.lt g rfl).1;have hset:w2.grownBy (w2.setCell ⟨w.heap.size+1,0,none⟩ (.slice (some ⟨g,0,none⟩) (R.length+1) cap)) (some (w.heap.size+1)):=⟨rfl,rfl,rfl,by simp,fun k _ hk=>Below.heap_setCell _ _ _ _ (by intro e;exact hk (by simp [e]))⟩;have hsz:w1.heap.size≤(w2.setCell ⟨w.heap.size+1,0,none⟩ (.slice (some ⟨g,0,none⟩) (R.length+1) cap)).heap.size:=by simpa using hg.size
 have hheap:∀ b,b<w1.heap.size→w.heap.size+1<b→some b≠vOr.ownBlock→(w2.setCell ⟨w.heap.size+1,0,none⟩ (.slice (some ⟨g,0,none⟩) (R.length+1) cap)).heap[b]?=w1.heap[b]?:=fun b hb' hT hn=>by
  rw [hset.block b (Nat.lt_of_lt_of_le hb' hg.size) (by intro e;cases e;omega),hg.block b hb' hn]
 have hv':Value.ownBlock (.slice (some ⟨g,0,none⟩) (R.length+1) cap)=vOr.ownBlock∨∃ j,Value.ownBlock (.slice (some ⟨g,0,none⟩) (R.length+1) cap)=some j∧w1.heap.size≤j:=by
  rcases hat with e|e
  ·exact .inl e.symm
  ·exact .inr ⟨g,rfl,by omega⟩
 refine ⟨⟨?_,b0.kept hset (by simp),b1.put 0 _,?_,h.two,grown_put (grown_up h1.gr hg (fun k hk=>(h.own.lt k hk).1)) 0 _,?_,?_⟩,b1.cell 0,b1.frozen 0⟩
 ·rw [List.take_add_one,hrow];exact all?_snoc h.parsed hr
 ·rw [List.length_append];exact ho.kept hset (.inr (by simp only [Value.ownBlock,ne_eq,Option.some.injEq];omega))
 ·refine F2.snoc (h1.rows.mono fun y m k=>k.step hsz hheap hv') ?_;have hT:w.heap.size+1<wr.heap.size:=h.rule.lt;have hrk:RowK w1 vOr (w.heap.size+1) x l:=⟨wr.heap.size,w1,hc,ql,hT,fun b _ _=>rfl,fun k hk=>.inl (h.own.lt k hk).2⟩;exact hrk.step hsz hheap hv'
 ·exact below_set (below_grown h1.bel hg (Nat.le_trans h1.bel.size ql) (fun j hj=>by have:=(h.own.lt j hj).1;have:=h.two;omega)) _ _ (by omega) _
theorem CondsB.mono {w:World} {B B':Nat} {v:Value} {l:List Cnd} (h:CondsB w B v l) (hB:B'≤B):CondsB w B' v l:=by
 obtain ⟨es,h1,h2,h3,h4⟩:=h;exact ⟨es,h1,h2,fun e he=>(h3 e he).mono hB,fun k hk=>⟨Nat.le_trans hB (h4 k hk).1,(h4 k hk).2⟩⟩
theorem OutI.fin {w W3 wr:World} {rows:List (List Bs)} {k:Nat} {vOr:Value} {xs:List Value} {R:Rl} (h:OutI w W3 wr rows k vOr xs R) (u:Value) :
  ∃ A n c,vOr=.slice A n c∧RuleAreB w.heap.size (wr.setCell ⟨w.heap.size,0,none⟩ u) A n c R:=by
 have hset:wr.grownBy (wr.setCell ⟨w.heap.size,0,none⟩ u) (some w.heap.size):=⟨rfl,rfl,rfl,by simp,fun k _ hk=>Below.heap_setCell _ _ _ _ (by intro e;exact hk (by simp [e]))⟩
 have ho:=h.own.kept hset (by
  cases e:vOr.ownBlock with
  | none=>exact .inl rfl
  | some j=>exact .inr (by have:=(h.own.lt j e).1;have:=h.two;simp;omega))
 have h1:=SlC.own ho;obtain ⟨A,c,rfl,-⟩:=h1;refine ⟨A,_,c,rfl,xs,SlC.own ho,fun k hk=>⟨by have:=(ho.lt k hk).1;have:=h.two;omega,(ho.lt k hk).2⟩,h.rows.mono fun x l k=>?_⟩;obtain ⟨lo,hlo,hc⟩:=(k.step (v':=.slice A _ c) (by simp) (fun b hb hT _=>hset.block b hb (by intro e;cases e;omega)) (.inl rfl)).condsT;exact hc.mono (by omega)
theorem five_one (e:E3) (h:(∃ A n c,e.2.1=.slice A n c)∧(∃ A n c,e.2.2=.slice A n c)):∀ u ∈ five e,u.oneCell'=true:=by
 obtain ⟨⟨A,n,c,h1⟩,⟨A',n',c',h2⟩⟩:=h;intro u hu;simp only [five,h1,h2,List.mem_cons,List.not_mem_nil,or_false] at hu;rcases hu with rfl|rfl|rfl|rfl|rfl <;> simp [Value.oneCell']
theorem splitG_sub {α:Type} [DecidableEq α] (c:α):∀ (l w:List α),w ∈ splitG c l→∀ t ∈ w,t ∈ l
 | [],w,h,t,ht=>by
  have:w=[]:=by simpa [splitG] using h
  subst this;cases ht
 | b :: l,w,h,t,ht=>by
  by_cases hb:b=c
  ·subst hb;rw [splitG_eq] at h;rcases List.mem_cons.1 h with rfl|h
   ·cases ht
   ·exact List.mem_cons_of_mem _ (splitG_sub b l w h t ht)
  ·obtain ⟨x,r,e⟩:=splitG_ex c l;rw [splitG_other hb e] at h;have ih:=splitG_sub c l;rw [e] at ih;rcases List.mem_cons.1 h with rfl|h
   ·rcases List.mem_cons.1 ht with rfl|ht
    ·simp
    ·exact List.mem_cons_of_mem _ (ih x (by simp) t ht)
   ·exact List.mem_cons_of_mem _ (ih w (by simp [h]) t ht)
def InW (W2:World) (ws:List (List Bs)) (v i:Value) (wr:World):Prop :=
 ∃ (j:Nat) (es:List E3),j≤ws.length∧i=.int .i64 j∧all? cond? (ws.take j)=some (es.map (·.1))∧es.length=j∧OwnC wr W2.heap.size v es∧Below W2.heap.size W2 wr
def OutW (w W3:World) (rows:List (List Bs)) (i:Value) (wr:World):Prop :=
 ∃ (k:Nat) (vOr:Value) (xs:List Value) (R:Rl),k≤rows.length∧i=.int .i64 k∧R.length=k∧OutI w W3 wr rows k vOr xs R
theorem rule_Parse (w:World) (s:ByteArray) (hG:GW w):Calls Tryz.prog 14 #[.string s] w (ParsePost w s.data.toList):=by
 have HG:=qh hG;have hsl:s.data.toList.length=s.size:=(Lib.size_eq s).symm;obtain ⟨i7,hi7,hz70,hz71,hz72⟩:=info_parts Tryz_info47;obtain ⟨i8,hi8,hz80,hz81,hz82⟩:=info_parts Tryz_info48;clear hG;by_cases hbig:256<s.size
 ·have hp:parseR s.data.toList=(11,[]):=by unfold parseR;rw [if_pos (by omega)]
  have HP:=qh hp;have hbI:(256:Int)<(s.size:Int):=by omega
  clear hp hsl;go_enter Tryz.func14,Tryz.ntmps14;go_upto_region 1 with fail;refine wp_letter (fun w1=>Blk w1 w.heap.size 30 [.slice none 0 0]∧Below w.heap.size w w1) ⟨Blk.made _ 30 _ _ _ rfl rfl,(Below.refl _ _).alloc ql _⟩ ?_;rintro w1 ⟨b0,hb⟩;have HB:=qh hb;have B0:=qh b0;obtain ⟨k0,f0⟩:=b0.cf1;clear hb b0;go_wp2_with fail;have hf:=B0.o.put 0 (.slice none 0 0);have q0:=hf.cell 0;have hbf:=below_set HB.o w.heap.size 0 ql (.slice none 0 0);generalize w1.setCell ⟨w.heap.size,0,none⟩ (.slice none 0 0)=wf at *
  simp only [M0,M2] at q0;refine bodyPost_ret (v:=.tuple #[.agg #[.slice none 0 0],.int .i64 11]) (by simp [results,Tryz.results14,go_sem,q0];try rfl) rfl ?_;exact ⟨none,0,0,by rw [HP.o];rfl,by rw [HP.o];exact RuleAreB.nil _ _,hbf⟩
 ·have hbI:¬ (256:Int)<(s.size:Int):=by omega
  obtain ⟨ws,hws⟩:∃ ws,splitG 32 s.data.toList=ws:=⟨_,rfl⟩;obtain ⟨rows,hrows⟩:∃ rows,splitG wOr ws=rows:=⟨_,rfl⟩
  have hp:parseR s.data.toList=match all? row? rows with|none=>(2,[])|some r=>(0,r):=by
   unfold parseR rule?;rw [if_neg (by omega),hws,hrows];cases all? row? rows <;> rfl
  have HP:=qh hp;have hwl:ws.length≤1000:=by rw [← hws];have:=splitG_length 32 s.data.toList;omega
  have hwm:∀ t ∈ ws,t.length≤1000000:=by rw [← hws];exact fun t ht=>Nat.le_trans (splitG_mem_len 32 _ t ht) (by omega)
  have hrl:rows.length≤1001:=by rw [← hrows];have:=splitG_length wOr ws;omega
  have hrm:∀ r ∈ rows,r.length≤1000∧∀ t ∈ r,t.length≤1000000:=by
   rw [← hrows];intro r hr;refine ⟨Nat.le_trans (splitG_mem_len wOr _ r hr) hwl,fun t ht=>?_⟩;have:=splitG_sub wOr ws r hr t ht;exact hwm t this
  have HRM:=qh hrm;have HWS:=qh hws;have HRW:=qh hrows;clear hp hsl hws hwm hrm hrows;go_enter Tryz.func14,Tryz.ntmps14;go_upto_region 4 with fail;refine wp_letter (fun w1=>Blk w1 w.heap.size 30 [.slice none 0 0]∧Blk w1 (w.heap.size+1) 30 [.slice none 0 0]∧Below w.heap.size w w1) ⟨(Blk.made _ 30 _ _ _ rfl rfl).alloc _,Blk.made _ 30 _ _ _ (by simp) rfl,((Below.refl _ _).alloc ql _).alloc (by simp) _⟩ ?_;rintro w1 ⟨b0,b1,hb⟩;have HB:=qh hb;have B0:=qh b0;have B1:=qh b1;clear hb b0 b1;go_wp2_with fail;refine (str_split s 32 w1 (HG.o.below HB.o ql) (by omega)).mono ?_;rintro e w2 ⟨⟨A,n,c,rfl,hS⟩,hb2⟩;rw [HWS.o] at hS;have HS:=qh hS;have HB2:=qh hb2;clear hS hb2;dsimp only;go_wp2_with fail;refine (rule_cut w2 A n c ws ⟨#[111,114]⟩ HS.o (by omega)).mono ?_;rintro e w3 ⟨⟨A',n',c',rfl,hR⟩,hb3⟩;have hR':RowsAre w3 w2.heap.size A' n' c' rows:=by rw [← HRW.o];exact hR
  have hn:=hR'.len;subst hn;have HR:=qh hR';have h23:w.heap.size+2≤w2.heap.size:=by have:=B1.o.lt;have:=HB2.o.size;omega
  have h33:w2.heap.size≤w3.heap.size:=hb3.size;have HB3:=qt HB2 hb3;have C0:=qh (B0.o.below HB3.o B0.o.lt);have C1:=qh (B1.o.below HB3.o B1.o.lt);have HB4:=qh (HB.o.trans (HB3.o.mono HB.o.size));clear hR hR' hb3 HS HB2 B0 B1 HB HB3;have hrI:(rows.length:Int)≤1001:=by omega
  dsimp only;go_wp2_with fail;go_loopw [20] (OutW w w3 rows) (fun i _=>rows.length - (intOf i).toNat)
  case atStart =>
   exact ⟨0,_,[],[],Nat.zero_le _,rfl,rfl,rfl,C0.o,C1.o,World.ownsRow_nil _ _ _ _,by omega,⟨rfl,rfl,rfl,ql,fun _ _ _=>rfl⟩,.nil,HB4.o⟩
  case round =>
   obtain ⟨k,vOr,xs,R,hk,rfl,hRk,hI⟩:=hrel;subst hRk;by_cases hlt:R.length<rows.length
   ·obtain ⟨b,o,rfl,hbB,hc⟩:=HR.o.at (by omega);obtain ⟨row,hrow⟩:∃ r,rows[R.length]?=some r:=⟨rows[R.length],List.getElem?_eq_getElem hlt⟩;obtain ⟨rA,rn,rc,hc1,hS,hSb⟩:=hc R.length row hrow;have hsame:∀ b,b<w3.heap.size→w2.heap.size≤b→wr.heap[b]?=w3.heap[b]?:=fun b hb hb2=>hI.gr.block b hb (by intro e;cases e;omega);have hck:wr.cell? ⟨b,o+R.length,none⟩=some (.slice rA rn rc):=(World.cell?_of_block (hsame b (World.block_lt_of_cell? w3 _ hc1) hbB)).trans hc1;have hSr:StrsAre wr rA rn rc row:=SlC.stable hS fun k hk hlt=>hsame k hlt (hSb k hk);have hrm:=HRM.o row (List.mem_of_getElem? hrow);have hrn:=hSr.len;subst hrn;have hGr:=HG.o.below hI.bel ql;have hkI:(R.length:Int)<(rows.length:Int):=by omega
    have hk0:(0:Int)≤(R.length:Int):=by omega
    have HROW:=qh hrow;have HI:=qh hI;have HSR:=qh hSr;have HGR:=qh hGr;have HRW2:=qh hrm;clear hc hc1 hS hSb hsame hrow hI hSr hGr hrm;obtain ⟨wo,rfl⟩:∃ wo:World,wo=wr:=⟨_,rfl⟩;go_wp2_with fail;refine (rule_cut wo rA row.length rc row ⟨#[97,110,100]⟩ HSR.o (by have:=HRW2.o.1;omega)).mono ?_;rintro e w4 ⟨⟨A2,n2,c2,rfl,hR2⟩,hb4⟩;obtain ⟨crow,hcrow⟩:∃ crow,splitG wAnd row=crow:=⟨_,rfl⟩;have hR3:RowsAre w4 wo.heap.size A2 n2 c2 crow:=by rw [← hcrow];exact hR2
    have hn2:=hR3.len;subst hn2;have hcl:crow.length≤1001:=by rw [← hcrow];have:=splitG_length wAnd row;have:=HRW2.o.1;omega
    have hcm:∀ r ∈ crow,r.length≤1000∧∀ t ∈ r,t.length≤1000000:=by
     rw [← hcrow];exact fun r hr=>⟨Nat.le_trans (splitG_mem_len wAnd _ r hr) HRW2.o.1,fun t ht=>HRW2.o.2 t (splitG_sub wAnd row r hr t ht)⟩
    have hrowc:row? row=all? cond? crow:=by unfold row?;rw [hcrow]
    have HRC:=qh hrowc;have HCM:=qh hcm;have HR3:=qh hR3;have HB4':=qh hb4;have HI4:=qh (HI.o.below hb4);have hclI:(crow.length:Int)≤1001:=by omega
    have hw4:=hb4.size;have hww:w.heap.size+2≤w4.heap.size:=Nat.le_trans HI.o.two (Nat.le_trans HI.o.gr.size hw4);clear hR2 hcrow hR3 hcm hrowc hb4 hck;dsimp only;go_wp2_with fail;go_loopw [7,27] (InW w4 crow) (fun _ i _=>crow.length - (intOf i).toNat)
    case atStart=>exact ⟨0,[],Nat.zero_le _,rfl,rfl,rfl,OwnC.nil _ _,Below.refl _ _⟩
    case round =>
     obtain ⟨j,es,hj,rfl,hes,hel,hO,hbi⟩:=hrel;subst hel;by_cases hjl:es.length<crow.length
     ·obtain ⟨b2,o2,rfl,-,hc⟩:=HR3.o.at (by omega);obtain ⟨wd,hwd⟩:∃ r,crow[es.length]?=some r:=⟨crow[es.length],List.getElem?_eq_getElem hjl⟩;obtain ⟨dA,dn,dc,hc1,hS,-⟩:=hc es.length wd hwd;have hck2:wr.cell? ⟨b2,o2+es.length,none⟩=some (.slice dA dn dc):=(hbi.cell (World.block_lt_of_cell? w4 _ hc1)).trans hc1;have hSd:=hS.below hbi ql;have hdm:=HCM.o wd (List.mem_of_getElem? hwd);have hGd:=HG.o.below (HI4.o.bel.trans (hbi.mono HI4.o.bel.size)) ql;have hjI:(es.length:Int)<(crow.length:Int):=by omega
      have hj0:(0:Int)≤(es.length:Int):=by omega
      have HWD:=qh hwd;have HES:=qh hes;have HO:=qh hO;have HBI:=qh hbi;have HSD:=qh hSd;have HGD:=qh hGd;have HDM:=qh hdm;clear hc hc1 hS hwd hes hO hbi hSd hGd hdm;go_wp2_with fail;refine (rule_cond wr dA dn dc wd HGD.o HSD.o (by have:=HDM.o.1;omega) HDM.o.2).mono ?_;rintro e w5 ⟨l,m,nt,vF,vT,hb5,hpost⟩;have HB5:=qh hb5;have HO5:=qh (HO.o.below hb5);have HBI5:=qt HBI hb5;have HVB:Hid (∀ k,u7.ownBlock=some k→k<wr.heap.size):=fun k hk=>(World.ownsRow.lt HO.o.own k hk).2;clear hb5 hck2;rcases hpost with ⟨cd,hcd,rfl,⟨FA,fn,fc,rfl⟩,⟨TA,tn,tc,rfl⟩,hcv⟩|⟨hcd,rfl,⟨FA,fn,fc,rfl⟩,⟨TA,tn,tc,rfl⟩⟩
      ·obtain ⟨rfl,rfl,rfl,hiF,hiT⟩:=hcv;have HCD:=qh hcd;have HOK:Hid (IntsOk w5 w4.heap.size (cd,.slice FA fn fc,.slice TA tn tc)):=⟨hiF.mono HBI.o.size,hiT.mono HBI.o.size,⟨_,_,_,rfl⟩,⟨_,_,_,rfl⟩⟩
       have HAP:Hid (∀ k,Value.ownBlock (.slice FA fn fc)=some k∨Value.ownBlock (.slice TA tn tc)=some k→u7.ownBlock≠some k):=by
        intro k hk e;have h1:=HVB.o k e;rcases hk with hk|hk
        ·have:=(hiF.2 k hk).1;omega
        ·have:=(hiT.2 k hk).1;omega
       clear hiF hiT hcd;dsimp only;go_upto_region 12 with fail;generalize hg10:w5.heap.size=g10
       refine wp_letter (fun w6=>Blk w6 g10 47 [.int .u8 (cd.letter:Int),.int .i64 cd.mod,.bool cd.nt,.slice FA fn fc,.slice TA tn tc]∧OwnC w6 w4.heap.size u7 es∧IntsOk w6 w4.heap.size (cd,.slice FA fn fc,.slice TA tn tc)∧Below w4.heap.size w4 w6)
        ⟨Blk.made _ 47 _ _ _ hg10.symm rfl,HO5.o.alloc _,HOK.o.kept (by simp) (fun k hk=>Below.heap_alloc _ _ _ (HOK.o.lt hk).2),HBI5.o.alloc HBI5.o.size _⟩ ?_
       clear HO5 HOK HBI5 HB5 hg10;rintro w6 ⟨d10,ho6,hok6,hbi6⟩;have D10:=qh d10;have HO6:=qh ho6;have HOK6:=qh hok6;have HBI6:=qh hbi6;have z6:=hbi6.size;obtain ⟨k0,k1,k2,k3,k4⟩:=d10.c5;clear d10 ho6 hok6 hbi6;have hmx:=maxLen_ge;go_wp2_with (at_builtin;refine wpList_append_lies _ (by rfl) (.tmp 39) (.tmp 41) 48 (by rfl) w4.heap.size 47 i7 (.agg #[.int .u8 0,.int .i64 0,.bool false,.slice none 0 0,.slice none 0 0]) 5 72 Tryz.underlying48 hi7 hz70 hz71 hz72 rfl (by decide) u7 es.length (cellsC es) (by rfl) (World.ownsRow.alloc HO6.o.own _) ⟨w6.heap.size,0,none⟩ 1 1 (five (cd,.slice FA fn fc,.slice TA tn tc)) (by rfl) rfl (World.news_of_block (heap_alloc_new w6 _)) (five_one _ ⟨⟨_,_,_,rfl⟩,⟨_,_,_,rfl⟩⟩) (by omega) (by omega) (by omega) (by simp;omega) (w6.heap.size+1) (by simp) ?_;intro g1 cap1 w7 hown hgrow hat hlt7;have HO7:=qh hown;have HG7:=qh hgrow;have HAT7:=qh hat;clear hown hgrow hat)
       go_roundw
       case rel =>
        refine ⟨es.length+1,es ++ [(cd,.slice FA fn fc,.slice TA tn tc)],by omega,by go_num,?_,by simp,?_,?_⟩
        ·rw [List.take_add_one,HWD.o,List.map_append];exact all?_snoc HES.o HCD.o
        ·exact (HO6.o.alloc _).push ((HOK6.o).kept (by simp) (fun k hk=>Below.heap_alloc _ _ _ (HOK6.o.lt hk).2)) HAP.o HG7.o HO7.o (HAT7.o.imp id fun h=>by rw [h];simp)
        ·exact below_grown (HBI6.o.alloc HBI6.o.size _) HG7.o (Nat.le_trans HBI6.o.size (by simp)) (fun k hk=>(World.ownsRow.lt HO6.o.own k hk).1)
       case measure=>simp [intOf];omega
      ·dsimp only;go_upto_region 12 with fail;refine wp_letter (fun w6=>Blk w6 w.heap.size 30 [.slice none 0 0]∧Below w.heap.size w w6) ⟨(HI4.o.res.below HBI5.o HI4.o.res.lt).alloc _,(HI4.o.bel.trans (HBI5.o.mono HI4.o.bel.size)).alloc (Nat.le_trans HI4.o.bel.size HBI5.o.size) _⟩ ?_;rintro w6 ⟨b6,hb6⟩;have B6:=qh b6;have HB6:=qh hb6;obtain ⟨k0,f0⟩:=b6.cf1;clear b6 hb6;go_wp2_with fail;have hf:=B6.o.put 0 (.slice none 0 0);have q0:=hf.cell 0;have hbf:=below_set HB6.o w.heap.size 0 ql (.slice none 0 0);have hP2:parseR s.data.toList=(2,[]):=by rw [HP.o,all?_bad HROW.o (by rw [HRC.o];exact all?_bad HWD.o hcd)]
       generalize w6.setCell ⟨w.heap.size,0,none⟩ (.slice none 0 0)=wf at *
       simp only [M0,M2] at q0;refine bodyPost_ret (v:=.tuple #[.agg #[.slice none 0 0],.int .i64 2]) (by simp [results,Tryz.results14,go_sem,q0];try rfl) rfl ?_;exact ⟨none,0,0,by rw [hP2];rfl,by rw [hP2];exact RuleAreB.nil _ _,hbf⟩
     ·have hj2:es.length=crow.length:=by omega
      have hjI:¬ (es.length:Int)<(crow.length:Int):=by omega
      rw [List.take_of_length_le (by omega)] at hes;clear hj2;have hro:row? row=some (es.map (·.1)):=by rw [HRC.o];exact hes
      have hcb:=hO.conds;obtain ⟨LA,ln,lc,rfl⟩:=hcb.form;have HROK:=qh hro;have HCB:=qh (hcb.mono hw4);have HBW:=qh (HB4'.o.trans (hbi.mono HB4'.o.size));have hI5:=HI4.o.below (hbi.mono ql);have HI5:=qh hI5;obtain ⟨A9,n9,c9,rfl,-⟩:=hI5.fin (.slice none 0 0);have k1:=hI5.rule.c1;have hRl:R.length≤1001:=by omega
      have hmx:=maxLen_ge;have hz3:=hI5.gr.size;clear hO hes hro hcb hI5 hbi;go_wp2_with (at_builtin;refine wpList_append_lies _ (by rfl) (.tmp 45) (.tmp 47) 28 (by rfl) w3.heap.size 48 i8 (.slice none 0 0) 1 24 Tryz.underlying28 hi8 hz80 hz81 hz82 rfl (by decide) (.slice A9 n9 c9) R.length xs (by rfl) (World.ownsRow.alloc HI5.o.own _) ⟨wr.heap.size,0,none⟩ 1 1 [.slice LA ln lc] (by rfl) rfl (cell_one_new _ _ _) (by simp [Value.oneCell']) (by omega) (by omega) (by omega) (by simp;omega) (wr.heap.size+1) (by simp) ?_;intro g1 cap1 w7 hown hgrow hat hlt7;obtain ⟨hp,kc,kf⟩:=HI.o.push HROW.o HROK.o (HBW.o.alloc HBW.o.size _) (HCB.o.stable (by simp) fun b _ hb=>Below.heap_alloc _ _ _ hb) hgrow hown (hat.imp id fun h=>by rw [h];simp);have HP7:=qh hp;clear hown hgrow hat hp)
      go_roundw
      case rel=>exact ⟨R.length+1,_,_,_,by omega,by go_num,by simp,HP7.o⟩
      case measure=>simp [intOf];omega
   ·have hk2:R.length=rows.length:=by omega
    have hkI:¬ (R.length:Int)<(rows.length:Int):=by omega
    have hpa:=hI.parsed;rw [List.take_of_length_le (by omega)] at hpa;clear hk2;have hP2:parseR s.data.toList=(0,R):=by rw [HP.o,hpa]
    have HP2:=qh hP2;have HI:=qh hI;obtain ⟨A9,n9,c9,rfl,-⟩:=hI.fin (.slice none 0 0);obtain ⟨k0,f0⟩:=hI.res.cf1;have k1:=hI.rule.c1;clear hI hpa hP2;go_wp2_with fail;have hf:=HI.o.res.put 0 (.slice A9 n9 c9);have q0:=hf.cell 0;have hbf:=below_set HI.o.bel w.heap.size 0 ql (.slice A9 n9 c9);obtain ⟨A8,n8,c8,e8,hru⟩:=HI.o.fin (.slice A9 n9 c9);cases e8
    generalize wr.setCell ⟨w.heap.size,0,none⟩ (.slice A9 n9 c9)=wf at *
    simp only [M0,M2] at q0;refine bodyPost_ret (v:=.tuple #[.agg #[.slice A9 n9 c9],.int .i64 0]) (by simp [results,Tryz.results14,go_sem,q0];try rfl) rfl ?_;exact ⟨A9,n9,c9,by rw [HP2.o];rfl,by rw [HP2.o];exact hru,hbf⟩
theorem below_grow (B:Nat) (w:World) (os:Array Obj) (h:B≤w.heap.size):Below B w (Sort.grow w os) :=
 ⟨rfl,rfl,rfl,by simp [Sort.grow],fun k hk=>by simp only [Sort.grow];rw [Array.getElem?_append_left (by omega)]⟩
theorem str_itoa (w:World) (n:Int) (hg:GW w) (h0:-9223372036854775808≤n) (h1:n≤9223372036854775807) :
  Calls Tryz.prog 154 #[.int .i64 n] w fun e w'=>e=.returned (.string ⟨(Lib.itoa n).toArray⟩)∧Below w.heap.size w w':=by
 refine (Tryz.strconv_Itoa n h0 h1 w hg.pow10).mono ?_;rintro e w' ⟨rfl,k,os,rfl⟩;exact ⟨rfl,(below_drews w k).trans ((below_grow _ _ _ ql).mono (by simp [World.drewN]))⟩
theorem str_join (w:World) (A:Option Addr) (n c:Nat) (ws:List Bs) (sep:ByteArray) (h:StrsAre w A n c ws) (hn:ws.length≤1000000) (hlen:(Lib.join ws sep.data.toList).length≤140737488355328) :
  Calls Tryz.prog 101 #[.slice A n c,.string sep] w fun e w'=>e=.returned (.string ⟨(Lib.join ws sep.data.toList).toArray⟩)∧Below w.heap.size w w':=by
 obtain rfl:n=ws.length:=h.len;have hc:=h.cap;by_cases h0:0<ws.length
 ·obtain ⟨b,o,rfl,hcell⟩:=h.at h0;have hb:b<w.heap.size:=World.block_lt_of_cell? w _ (hcell 0 ws[0] (List.getElem?_eq_getElem h0));have hm:(ws.map fun b:Bs=>(⟨b.toArray⟩:ByteArray)).map (·.data.toList)=ws:=by simp [List.map_map,Function.comp_def]
  have:=Tryz.strings_Join b o c (ws.map fun b:Bs=>(⟨b.toArray⟩:ByteArray)) sep w (fun j x hx=>by
   rw [List.getElem?_map] at hx;obtain ⟨y,hy,rfl⟩:=Option.map_eq_some_iff.1 hx
   exact hcell j y hy) hb (by simp;omega) (by simpa using hc) (by rw [hm];exact hlen)
  rw [hm,List.length_map] at this;exact this
 ·have:ws=[]:=List.eq_nil_of_length_eq_zero (by omega);subst this;refine (Tryz.strings_Join_none A c sep w).mono ?_;rintro e w' ⟨rfl,rfl⟩;exact ⟨rfl,Below.refl _ _⟩
def In64 (x:Int):Prop:=-9223372036854775808≤x∧x≤9223372036854775807
theorem decDigits_len64 (u:Nat) (h:u≤9223372036854775808):(Lib.decDigits u).length≤19:=by
 rw [Lib.decDigits_length];rcases Nat.lt_or_ge 19 (Lib.nDigits u) with h9|h9
 ·exfalso
  have:∀ (k u:Nat),k+1<Lib.nDigits u→10 ^ (k+1)≤u:=by
   intro k
   induction k with
   | zero =>
    intro u hu;by_cases h:u<10
    ·rw [Lib.nDigits_small h] at hu;omega
    ·simp;omega
   | succ k ih =>
    intro u hu;by_cases h:u<10
    ·rw [Lib.nDigits_small h] at hu;omega
    ·rw [Lib.nDigits_big h] at hu;have:=ih (u / 10) (by omega);rw [Nat.pow_succ];omega
  have:=this 18 u h9;simp at this;omega
 ·exact h9
theorem itoa_len {x:Int} (h:In64 x):(Lib.itoa x).length≤20:=by
 obtain ⟨h1,h2⟩:=h;unfold Lib.itoa;split
 ·have:=decDigits_len64 x.natAbs (by omega);simp;omega
 ·have:=decDigits_len64 x.toNat (by omega);omega
theorem itemW_len64 {f t:Int} (hf:In64 f) (ht:In64 t):(itemW f t).length≤42:=by
 have h1:=itoa_len hf;have h2:=itoa_len ht;unfold itemW;split <;> simp <;> omega
theorem items_len:∀ f t:List Int,(items f t).length=min f.length t.length
 | [],_=>by simp [items]
 | _ :: _,[]=>by simp [items]
 | a :: f,b :: t=>by simp [items,items_len f t]
theorem items_at:∀ (f t:List Int) (k:Nat) (a b:Int),f[k]?=some a→t[k]?=some b→(items f t)[k]?=some (itemW a b)
 | [],_,k,a,b,h,_=>by simp at h
 | _ :: _,[],k,a,b,_,h=>by simp at h
 | x :: f,y :: t,0,a,b,h,h'=>by simp at h h';subst h;subst h';simp [items]
 | x :: f,y :: t,k+1,a,b,h,h'=>by simpa [items] using items_at f t k a b (by simpa using h) (by simpa using h')
theorem items_small:∀ f t:List Int,(∀ x ∈ f,In64 x)→(∀ x ∈ t,In64 x)→∀ w ∈ items f t,w.length≤42
 | [],_,_,_,w,h=>by simp [items] at h
 | _ :: _,[],_,_,w,h=>by simp [items] at h
 | x :: f,y :: t,hf,ht,w,h=>by
  rcases List.mem_cons.1 h with rfl|h
  ·exact itemW_len64 (hf x (by simp)) (ht y (by simp))
  ·exact items_small f t (fun x hx=>hf x (List.mem_cons_of_mem _ hx)) (fun x hx=>ht x (List.mem_cons_of_mem _ hx)) w h
theorem join_le (sep:Bs) (N m:Nat):∀ ws:List Bs,(∀ w ∈ ws,w.length≤m)→ws.length≤N→(Lib.join ws sep).length≤(m+sep.length) * N
 | [],_,_=>by simp [Lib.join_nil]
 | x :: r,h,hN=>by
  rw [Lib.join_length]
  have aux:∀ l:List Bs,(∀ w ∈ l,w.length≤m)→Lib.lens l≤m * l.length:=by
   intro l
   induction l with
   | nil=>intro _;simp [Lib.lens]
   | cons a l ih =>
    intro h;have h1:=h a (by simp);have h2:=ih (fun w hw=>h w (List.mem_cons_of_mem _ hw));simp only [Lib.lens,List.map_cons,List.sum_cons,List.length_cons,Nat.mul_add,Nat.mul_one] at h2 ⊢;omega
  have h1:=aux (x :: r) h;have h2:sep.length * r.length≤sep.length * N:=Nat.mul_le_mul_left _ (by simp at hN;omega);have h3:m * (x :: r).length≤m * N:=Nat.mul_le_mul_left _ hN;rw [Nat.add_mul];omega
structure SmallC (c:Cnd):Prop where
 letter:c.letter<256
 mod:In64 c.mod
 fr:∀ x ∈ c.fr,In64 x
 tl:∀ x ∈ c.to,In64 x
 nf:c.fr.length≤1000
 nt:c.to.length≤1000
theorem writeC_len {c:Cnd} (h:SmallC c):(writeC c).length≤50000:=by
 have h1:=join_le [44] 1000 42 (items c.fr c.to) (items_small _ _ h.fr h.tl) (by rw [items_len];have:=h.nf;omega);have h2:=itoa_len h.mod;unfold writeC;simp only [List.length_append,List.length_cons,List.length_nil] at h1 ⊢;split <;> split <;> simp <;> omega
end Go.Proofs.YtdgleeglndcjhaaGreatDoor
