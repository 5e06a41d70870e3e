import Derived.Test.YtdgleeglndcjhaaGreatDoorX08
import Derived.Test.YtdgleeglndcjhaaGreatDoorX32
import Derived.Test.YtdgleeglndcjhaaGreatDoorX07
import Derived.Test.YtdgleeglndcjhaaGreatDoorX35
import Derived.Test.YtdgleeglndcjhaaGreatDoorX26
set_option linter.unusedSimpArgs false
set_option linter.unusedVariables false
set_option maxHeartbeats 32000000
set_option maxRecDepth 100000
namespace Go.Proofs.YtdgleeglndcjhaaGreatDoor
open Go.RowKit
theorem Tryz_info118:(Tryz.prog.info? 118).map (fun i=>(i.zero,i.size,i.bytes))=some (some (.agg #[.int .u8 0,.int .i64 0,.bool false,.slice none 0 0,.slice none 0 0]),5,72):=by kernel_rfl
theorem Tryz_info121:(Tryz.prog.info? 121).map (fun i=>(i.zero,i.size,i.bytes))=some (some (.slice none 0 0),1,24):=by kernel_rfl
structure RowA (W wr:World) (v x:Value) (l:List Cnd):Prop where
 ex:∃ es:List E3,es.map (·.1)=l∧SlC wr x 5 es.length (cellsC es)∧∀ e ∈ es,IntsV W e.2.1 e.1.fr∧IntsV W e.2.2 e.1.to
 ap:∀ k,x.ownBlock=some k→k<wr.heap.size∧v.ownBlock≠some k
structure RowF (B:Nat) (w:World) (v:Value) (hi:Nat) (x:Value) (l:List Cnd):Prop where
 ex:∃ es:List E3,es.map (·.1)=l∧SlC w x 5 es.length (cellsC es)∧∀ e ∈ es,IntsV w e.2.1 e.1.fr∧IntsV w e.2.2 e.1.to∧∀ k,e.2.1.ownBlock=some k∨e.2.2.ownBlock=some k→B≤k∧k<hi∧v.ownBlock≠some k
 ap:∀ k,x.ownBlock=some k→B≤k∧k<hi∧v.ownBlock≠some k
theorem IntsV.stable {w w':World} {v:Value} {l:List Int} (h:IntsV w v l) (hk:∀ k,v.ownBlock=some k→k<w.heap.size→w'.heap[k]?=w.heap[k]?):IntsV w' v l:=by
 obtain ⟨A,n,c,rfl,h⟩:=h;exact ⟨A,n,c,rfl,SlC.stable h hk⟩
theorem RowF.step {B:Nat} {w w':World} {v v':Value} {hi hi':Nat} {x:Value} {l:List Cnd} (h:RowF B w v hi x l) (hk:∀ b,b<hi→some b≠v.ownBlock→w'.heap[b]?=w.heap[b]?)
  (hv:v'.ownBlock=v.ownBlock∨∃ k,v'.ownBlock=some k∧hi≤k) (hh:hi≤hi'):RowF B w' v' hi' x l:=by
 obtain ⟨⟨es,h1,h2,h3⟩,h4⟩:=h
 have hne:∀ k,B≤k∧k<hi∧v.ownBlock≠some k→B≤k∧k<hi'∧v'.ownBlock≠some k:=fun k ⟨z,a,b⟩=>⟨z,by omega,by
  rcases hv with e|⟨j,e,hj⟩
  ·rw [e];exact b
  ·rw [e];intro e2;cases e2;omega⟩
 refine ⟨⟨es,h1,h2.stable fun k hk' _=>hk k (h4 k hk').2.1 (fun e=>(h4 k hk').2.2 e.symm),fun e he=>?_⟩,fun k hk'=>hne k (h4 k hk')⟩;obtain ⟨a,b,c⟩:=h3 e he;exact ⟨a.stable fun k hk' _=>hk k (c k (.inl hk')).2.1 (fun e=>(c k (.inl hk')).2.2 e.symm),b.stable fun k hk' _=>hk k (c k (.inr hk')).2.1 (fun e=>(c k (.inr hk')).2.2 e.symm),fun k hk'=>hne k (c k hk')⟩
structure RuG (W wr:World) (hi g cap:Nat) (xs:List Value) (xl:Value) (es:List E3) (R:Rl):Prop where
 out:wr.ownsRow W.heap.size 121 1 (.slice (some ⟨g,0,none⟩) (R.length+1) cap) (R.length+1) (xs ++ [xl])
 rows:F2 (RowF W.heap.size wr (.slice (some ⟨g,0,none⟩) (R.length+1) cap) hi) xs R
 cur:wr.ownsRow W.heap.size 118 5 xl es.length (cellsC es)
 ints:∀ e ∈ es,IntsV wr e.2.1 e.1.fr∧IntsV wr e.2.2 e.1.to∧∀ k,e.2.1.ownBlock=some k∨e.2.2.ownBlock=some k→W.heap.size≤k∧k<wr.heap.size∧g≠k∧xl.ownBlock≠some k
 ne:xl.ownBlock≠some g
 lo:∀ k,xl.ownBlock=some k→hi≤k
 hi:hi≤wr.heap.size
 bel:Below W.heap.size W wr
theorem RuG.below {W wr w':World} {hi g cap:Nat} {xs:List Value} {xl:Value} {es:List E3} {R:Rl} (h:RuG W wr hi g cap xs xl es R) (hb:Below wr.heap.size wr w'):RuG W w' hi g cap xs xl es R :=
 ⟨own_kept_below h.out hb,h.rows.mono fun x l k=>k.step (fun b hb2 _=>hb.block b (Nat.lt_of_lt_of_le hb2 h.hi)) (.inl rfl) ql,own_kept_below h.cur hb,
  fun e he=>⟨(h.ints e he).1.below hb ql,(h.ints e he).2.1.below hb ql,fun k hk=>⟨((h.ints e he).2.2 k hk).1,Nat.lt_of_lt_of_le ((h.ints e he).2.2 k hk).2.1 hb.size,((h.ints e he).2.2 k hk).2.2⟩⟩,h.ne,h.lo,Nat.le_trans h.hi hb.size,h.bel.trans (hb.mono h.bel.size)⟩
theorem RuG.first (W:World):RuG W (W.alloc (.cells #[.slice none 0 0] 121)) (W.heap.size+1) W.heap.size 1 [] (.slice none 0 0) [] [] :=
 ⟨World.ownsRow_lit W #[.slice none 0 0] 1 ql (by decide) rfl,.nil,World.ownsRow_nil _ _ _ _,fun e h=>(by cases h),(by intro h;cases h),(fun k h=>by cases h),by simp,(Below.refl _ _).alloc ql _⟩
theorem RuG.push {W wr w1:World} {hi g cap g' cap':Nat} {xs:List Value} {xl:Value} {es:List E3} {R:Rl} {e:E3} (h:RuG W wr hi g cap xs xl es R)
  (he1:IntsV wr e.2.1 e.1.fr) (he2:IntsV wr e.2.2 e.1.to) (hk:∀ k,e.2.1.ownBlock=some k∨e.2.2.ownBlock=some k→W.heap.size≤k∧k<wr.heap.size∧g≠k∧xl.ownBlock≠some k)
  (hg:wr.grownBy w1 xl.ownBlock) (ho:w1.ownsRow W.heap.size 118 5 (.slice (some ⟨g',0,none⟩) (es.length+1) cap') (es.length+1) (cellsC es ++ five e)) (hat:xl.ownBlock=some g'∨g'=wr.heap.size) :
  RuG W (w1.setCell ⟨g,R.length,none⟩ (.slice (some ⟨g',0,none⟩) (es.length+1) cap')) hi g cap xs (.slice (some ⟨g',0,none⟩) (es.length+1) cap') (es ++ [e]) R∧w1.cell? ⟨g,R.length,none⟩=some xl∧w1.frozen? ⟨g,R.length,none⟩=false:=by
 have hxl:xs.length=R.length:=h.rows.len
 have hgne:g'≠g:=by
  rcases hat with e|e
  ·intro e2;exact h.ne (by rw [e,e2])
  ·have:=(h.out.lt g rfl).2;omega
 have hgx:some g≠xl.ownBlock:=Ne.symm h.ne;have ho1:=h.out.kept hg (.inr hgx);have hst:=ho1.stored R.length (.slice (some ⟨g',0,none⟩) (es.length+1) cap');have hset:w1.grownBy (w1.setCell ⟨g,R.length,none⟩ (.slice (some ⟨g',0,none⟩) (es.length+1) cap')) (some g):=⟨rfl,rfl,rfl,by simp,fun k _ hk=>Below.heap_setCell _ _ _ _ (by intro e;exact hk (by simp [e]))⟩
 have heq:(xs ++ [xl]).set R.length (.slice (some ⟨g',0,none⟩) (es.length+1) cap')=xs ++ [.slice (some ⟨g',0,none⟩) (es.length+1) cap']:=by
  rw [List.set_append_right _ _ (by omega),hxl];simp
 have hblk:∀ b,b<wr.heap.size→some b≠xl.ownBlock→b≠g→(w1.setCell ⟨g,R.length,none⟩ (.slice (some ⟨g',0,none⟩) (es.length+1) cap')).heap[b]?=wr.heap[b]?:=fun b h1 h2 h3=>by
  rw [Below.heap_setCell _ _ _ _ h3,hg.block b h1 h2]
 have hi':∀ e':E3,(IntsV wr e'.2.1 e'.1.fr∧IntsV wr e'.2.2 e'.1.to∧∀ k,e'.2.1.ownBlock=some k∨e'.2.2.ownBlock=some k→W.heap.size≤k∧k<wr.heap.size∧g≠k∧xl.ownBlock≠some k)→IntsV (w1.setCell ⟨g,R.length,none⟩ (.slice (some ⟨g',0,none⟩) (es.length+1) cap')) e'.2.1 e'.1.fr∧IntsV (w1.setCell ⟨g,R.length,none⟩ (.slice (some ⟨g',0,none⟩) (es.length+1) cap')) e'.2.2 e'.1.to∧∀ k,e'.2.1.ownBlock=some k∨e'.2.2.ownBlock=some k→W.heap.size≤k∧k<(w1.setCell ⟨g,R.length,none⟩ (.slice (some ⟨g',0,none⟩) (es.length+1) cap')).heap.size∧g≠k∧some g'≠some k:=by
  intro e' ⟨a,b,c⟩;refine ⟨a.stable fun k hk' _=>hblk k (c k (.inl hk')).2.1 (fun e=>(c k (.inl hk')).2.2.2 e.symm) (Ne.symm (c k (.inl hk')).2.2.1),b.stable fun k hk' _=>hblk k (c k (.inr hk')).2.1 (fun e=>(c k (.inr hk')).2.2.2 e.symm) (Ne.symm (c k (.inr hk')).2.2.1),fun k hk'=>⟨(c k hk').1,?_,(c k hk').2.2.1,?_⟩⟩
  ·have:=(c k hk').2.1;have:=hg.size;simp;omega
  ·intro e2;cases e2
   rcases hat with e3|e3
   ·exact (c _ hk').2.2.2 e3
   ·have:=(c _ hk').2.1;omega
 refine ⟨⟨?_,h.rows.mono fun x l k=>k.step (fun b h1 h2=>?_) (.inl rfl) ql,?_,?_,(by intro e2;cases e2;exact hgne rfl),fun k hk'=>?_,?_,?_⟩,?_,ho1.frozenAt R.length⟩
 ·rw [heq] at hst;exact hst.1
 ·rw [cellsC_snoc,List.length_append];exact ho.kept hset (.inr (by simp only [Value.ownBlock,ne_eq,Option.some.injEq];exact hgne))
 ·intro e' he';rcases List.mem_append.1 he' with h1|h1
  ·exact hi' e' (h.ints e' h1)
  ·obtain rfl:=List.mem_singleton.1 h1;exact hi' e' ⟨he1,he2,hk⟩
 ·cases hk'
  rcases hat with e2|e2
  ·exact h.lo _ e2
  ·have:=h.hi;show hi≤g';omega
 ·have:=h.hi;have:=hg.size;simp;omega
 ·exact below_set (below_grown h.bel hg h.bel.size (fun j hj=>(World.ownsRow.lt h.cur j hj).1)) g R.length (h.out.lt g rfl).1 _
 ·rw [ho1.cellAt R.length (by omega),List.getElem?_append_right (by omega),hxl];simp
 ·have h3:b<wr.heap.size:=Nat.lt_of_lt_of_le h1 h.hi;exact hblk b h3 (fun e=>by have:=h.lo b e.symm;omega) (fun e=>h2 (by rw [e];rfl))
theorem RuG.next {W wr w1:World} {hi g cap g' cap':Nat} {xs:List Value} {xl:Value} {es:List E3} {R:Rl} (h:RuG W wr hi g cap xs xl es R)
  (hg:wr.grownBy w1 (some g)) (ho:w1.ownsRow W.heap.size 121 1 (.slice (some ⟨g',0,none⟩) (R.length+1+1) cap') (R.length+1+1) (xs ++ [xl] ++ [.slice none 0 0])) (hat:some g=some g'∨g'=wr.heap.size) :
  RuG W w1 w1.heap.size g' cap' (xs ++ [xl]) (.slice none 0 0) [] (R ++ [es.map (·.1)]):=by
 have hv:Value.ownBlock (.slice (some ⟨g',0,none⟩) (R.length+1+1) cap')=some g∨∃ k,Value.ownBlock (.slice (some ⟨g',0,none⟩) (R.length+1+1) cap')=some k∧wr.heap.size≤k:=by
  rcases hat with e|e
  ·exact .inl (by rw [e];rfl)
  ·exact .inr ⟨g',rfl,by omega⟩
 have hl:(R ++ [es.map (·.1)]).length=R.length+1:=by simp
 have hcur:RowF W.heap.size wr (.slice (some ⟨g,0,none⟩) (R.length+1) cap) wr.heap.size xl (es.map (·.1)) :=
  ⟨⟨es,rfl,SlC.own h.cur,fun e he=>⟨(h.ints e he).1,(h.ints e he).2.1,fun k hk=>⟨((h.ints e he).2.2 k hk).1,((h.ints e he).2.2 k hk).2.1,fun e2=>((h.ints e he).2.2 k hk).2.2.1 (by cases e2;rfl)⟩⟩⟩,fun k hk=>⟨(World.ownsRow.lt h.cur k hk).1,(World.ownsRow.lt h.cur k hk).2,fun e2=>by cases e2;exact h.ne hk⟩⟩
 refine ⟨by rw [hl];exact ho,?_,World.ownsRow_nil _ _ _ _,fun e h=>(by cases h),(by intro h;cases h),(fun k h=>by cases h),ql,below_grown h.bel hg h.bel.size (fun j hj=>by cases hj;exact (h.out.lt g rfl).1)⟩;rw [hl];refine F2.snoc (h.rows.mono fun x l k=>?_) ?_
 ·exact (k.step (hi':=wr.heap.size) (w':=wr) (v':=.slice (some ⟨g,0,none⟩) (R.length+1) cap) (fun _ _ _=>rfl) (.inl rfl) h.hi).step (fun b h1 h2=>hg.block b h1 h2) hv hg.size
 ·exact hcur.step (fun b h1 h2=>hg.block b h1 h2) hv hg.size
theorem IntsV.form {w:World} {v:Value} {l:List Int} (h:IntsV w v l):∃ A n c,v=.slice A n c:=by
 obtain ⟨A,n,c,e,-⟩:=h;exact ⟨A,n,c,e⟩
theorem RowF.isB {B:Nat} {w:World} {v:Value} {hi:Nat} {x:Value} {l:List Cnd} (h:RowF B w v hi x l) (hh:hi≤w.heap.size):CondsB w B x l:=by
 obtain ⟨⟨es,h1,h2,h3⟩,h4⟩:=h;have up:∀ k,B≤k∧k<hi∧v.ownBlock≠some k→B≤k∧k<w.heap.size:=fun k h=>⟨h.1,by omega⟩;exact ⟨es,h1,h2,fun e he=>⟨⟨(h3 e he).1,fun k hk=>up k ((h3 e he).2.2 k (.inl hk))⟩,⟨(h3 e he).2.1,fun k hk=>up k ((h3 e he).2.2 k (.inr hk))⟩,(h3 e he).1.form,(h3 e he).2.1.form⟩,fun k hk=>up k (h4 k hk)⟩
theorem RuG.is {W wr:World} {hi g cap:Nat} {xs:List Value} {xl:Value} {es:List E3} {R:Rl} (h:RuG W wr hi g cap xs xl es R):RuleAreB W.heap.size wr (some ⟨g,0,none⟩) (R.length+1) cap (R ++ [es.map (·.1)]):=by
 have hl:(R ++ [es.map (·.1)]).length=R.length+1:=by simp
 refine ⟨xs ++ [xl],?_,fun k hk=>World.ownsRow.lt h.out k hk,F2.snoc (h.rows.mono fun x l k=>k.isB h.hi) ?_⟩
 ·rw [hl];exact SlC.own h.out
 ·exact ⟨es,rfl,SlC.own h.cur,fun e he=>⟨⟨(h.ints e he).1,fun k hk=>⟨((h.ints e he).2.2 k (.inl hk)).1,((h.ints e he).2.2 k (.inl hk)).2.1⟩⟩,⟨(h.ints e he).2.1,fun k hk=>⟨((h.ints e he).2.2 k (.inr hk)).1,((h.ints e he).2.2 k (.inr hk)).2.1⟩⟩,(h.ints e he).1.form,(h.ints e he).2.1.form⟩,fun k hk=>World.ownsRow.lt h.cur k hk⟩
theorem RuleAreB.mono {lo lo':Nat} {w:World} {A:Option Addr} {n c:Nat} {r:Rl} (h:RuleAreB lo w A n c r) (hl:lo'≤lo):RuleAreB lo' w A n c r:=by
 obtain ⟨xs,h1,h2,h3⟩:=h;exact ⟨xs,h1,fun k hk=>⟨Nat.le_trans hl (h2 k hk).1,(h2 k hk).2⟩,h3.mono fun x l ⟨es,k1,k2,k3,k4⟩=>⟨es,k1,k2,fun e he=>(k3 e he).mono hl,fun k hk=>⟨Nat.le_trans hl (k4 k hk).1,(k4 k hk).2⟩⟩⟩
theorem StrsAre.behind {w:World} {b o n c:Nat} {l:List Bs} (h:StrsAre w (some ⟨b,o,none⟩) n c l) (m:Nat) (hm:m≤n):∃ o2,(if c=m then (some ⟨b,o,none⟩:Option Addr) else some ⟨b,o+m,none⟩)=some ⟨b,o2,none⟩∧StrsAre w (some ⟨b,o2,none⟩) (n - m) (c - m) (l.drop m):=by
 obtain rfl:=h.len;obtain ⟨A',c',h1,h2,h3,h4⟩:=h;obtain ⟨hA,-,rfl⟩:=Value.slice.inj h1;by_cases hc:c=m
 ·refine ⟨o,if_pos hc,?_⟩;rw [List.drop_eq_nil_of_le (by omega),show l.length - m=0 by omega];exact SlC.nil _ _ _ _
 ·refine ⟨o+m,if_neg hc,_,_,by rw [List.length_drop],by rw [List.length_drop];omega,by simp,fun hp=>?_⟩;obtain ⟨b',o',h5,h6⟩:=h4 (by simp at hp ⊢;omega);have e:(⟨b,o,none⟩:Addr)=⟨b',o',none⟩:=Option.some.inj (hA.trans h5);cases e
  refine ⟨b,o+m,rfl,fun j x hx=>?_⟩;have h7:=h6 (m+j) x (by simpa [List.getElem?_drop] using hx);rw [← Nat.add_assoc] at h7;exact h7
def GX (R:Rl) (row:List Cnd) (ws:List Bs):Option Rl:=addR R row (rowsW ws)
theorem GX_go (R:Rl) (row:List Cnd) (ws:List Bs):GX R row ws=goX (ws.length+1) R row ws:=(goX_eq _ _ _ _ (Nat.lt_succ_self _)).symm
theorem GX_none {R:Rl} {row:List Cnd} {ws:List Bs} (h:condX ws=none):GX R row ws=none:=by rw [GX_go];unfold goX;rw [h]
theorem GX_end {R:Rl} {row:List Cnd} {ws:List Bs} {c:Cnd} {n:Nat} (h:condX ws=some (c,n)) (hd:ws.drop n=[]):GX R row ws=some (R ++ [row ++ [c]]):=by rw [GX_go];unfold goX;rw [h];simp only;rw [hd]
theorem drop_less {α:Type} {ws t:List α} {n:Nat} {x:α} (hd:ws.drop n=x :: t):t.length<ws.length:=by
 have:=congrArg List.length hd;simp at this;omega
theorem GX_and {R:Rl} {row:List Cnd} {ws t:List Bs} {c:Cnd} {n:Nat} (h:condX ws=some (c,n)) (hd:ws.drop n=wAnd :: t):GX R row ws=GX R (row ++ [c]) t:=by
 rw [GX_go];unfold goX;rw [h];simp only;rw [hd];simp only [if_true];exact goX_eq _ _ _ _ (drop_less hd)
theorem GX_or {R:Rl} {row:List Cnd} {ws t:List Bs} {c:Cnd} {n:Nat} (h:condX ws=some (c,n)) (hd:ws.drop n=wOr :: t):GX R row ws=GX (R ++ [row ++ [c]]) [] t:=by
 rw [GX_go];unfold goX;rw [h];simp only;rw [hd];simp only [show ¬ wOr=wAnd by decide,if_true,if_false];exact goX_eq _ _ _ _ (drop_less hd)
theorem GX_bad {R:Rl} {row:List Cnd} {ws t:List Bs} {c:Cnd} {n:Nat} {x:Bs} (h:condX ws=some (c,n)) (hd:ws.drop n=x :: t) (h1:x≠wAnd) (h2:x≠wOr):GX R row ws=none:=by
 rw [GX_go];unfold goX;rw [h];simp only;rw [hd];simp only [h1,h2,if_false]
theorem condX_len {ws:List Bs} {c:Cnd} {n:Nat} (h:condX ws=some (c,n)):n≤ws.length∧0<n:=by
 obtain ⟨seg,t,rfl,rfl,hc⟩:=condX_some h;refine ⟨by simp,?_⟩;cases seg with
 | nil=>simp [cond?] at hc
 | cons a b=>simp
theorem ref_ParseRuleB (w:World) (s:Bs) (hs:s.length≤70000000000) :
  Calls Tryz.prog 21 #[.string ⟨s.toArray⟩] w fun e w'=>(∃ A n c,e=.returned (.tuple #[.slice A n c,.int .i64 ((parseR s).1:Nat)])∧RuleAreB w.heap.size w' A n c (parseR s).2)∧Below w.heap.size w w':=by
 have hnil:∀ w':World,RuleAreB w.heap.size w' none 0 0 []:=fun w'=>RuleAreB.nil _ _;have HNIL:=qh hnil;clear hnil;by_cases hbig:256<s.length
 ·have hbI:256<(s.length:Int):=by omega
  have hp:parseR s=(11,[]):=by unfold parseR;rw [if_pos hbig]
  rw [hp];clear hp hbig;go_enter Tryz.func21,Tryz.ntmps21;go_wp2_with fail;go_ret2
  exact ⟨⟨none,0,0,rfl,HNIL.o _⟩,Below.refl _ _⟩
 have hbI:¬ 256<(s.length:Int):=by omega
 obtain ⟨i7,hi7,hz70,hz71,hz72⟩:=info_parts Tryz_info118;obtain ⟨i8,hi8,hz80,hz81,hz82⟩:=info_parts Tryz_info121;have hmx:=maxLen_ge;obtain ⟨PE,hPE⟩:∃ p,parseR s=p:=⟨_,rfl⟩;have hp:PE=match rule? s with|none=>(2,[])|some r=>(0,r):=by rw [← hPE];unfold parseR;rw [if_neg hbig];cases rule? s <;> rfl
 rw [hPE];have HP:=qh hp;clear hp hPE hbig;go_enter Tryz.func21,Tryz.ntmps21;go_wp2_with fail;refine (ref_parts w s 32 (by decide) (by omega)).mono ?_;rintro e W ⟨⟨A,n,c,rfl,hst⟩,hbW⟩;obtain ⟨ws0,hws0⟩:∃ ws,splitG (UInt8.ofNat 32) s=ws:=⟨_,rfl⟩;rw [hws0] at hst;have hg0:GX [] [] ws0=rule? s:=by rw [GX_go,← goX_rule s,← hws0];rfl
 have hl0:ws0.length≤257:=by rw [← hws0];have:=splitG_length (UInt8.ofNat 32) s;omega
 have hm0:∀ t ∈ ws0,t.length≤1000:=by rw [← hws0];exact fun t ht=>by have:=splitG_mem_len _ _ t ht;omega
 have HST:=qh hst;have HG0:=qh hg0;have HM0:=qh hm0;have HBW:=qh hbW;clear hst hws0 hg0 hm0 hbW;dsimp only;go_wp2_with fail;go_loopw [4,5] (fun v4 v5 wr=>∃ (A1:Option Addr) (n1 c1:Nat) (ws:List Bs) (hi g cap:Nat) (xs:List Value) (xl:Value) (es:List E3) (R:Rl),v4=.slice A1 n1 c1∧v5=.slice (some ⟨g,0,none⟩) (R.length+1) cap∧StrsAre W A1 n1 c1 ws∧RuG W wr hi g cap xs xl es R∧GX R (es.map (·.1)) ws=rule? s∧R.length+es.length+ws.length≤257∧∀ t ∈ ws,t.length≤1000) (fun v4 _ _=>lenOf v4)
 case atStart=>exact ⟨A,n,c,ws0,_,_,_,_,_,[],[],rfl,rfl,HST.o,RuG.first W,HG0.o,by simp;omega,HM0.o⟩
 case round =>
  obtain ⟨A1,n1,c1,ws,hi,g,cap,xs,xl,es,R,rfl,rfl,hst,hI,hgx,hlen,hm⟩:=hrel;obtain ⟨wo,rfl⟩:∃ wo:World,wo=wr:=⟨_,rfl⟩;have HST1:=qh hst;have HI:=qh hI;have HGX:=qh hgx;have HM:=qh hm;have hszW:=hI.bel.size;clear hst hI hgx hm;go_wp2_with fail;refine (ref_cond wo A1 n1 c1 ws (HST1.o.below HI.o.bel ql) (by omega) (fun t ht=>le_of_le (HM.o t ht))).mono ?_;rintro e w2 ⟨hcp,hb2⟩;have HI2:=qh (HI.o.below hb2);have hs2:=hb2.size;rcases hcp with ⟨hn,rfl⟩|⟨d,k,vF,vT,hx,rfl,hok⟩
  ·have hfin:PE=(2,[]):=by rw [HP.o,← HGX.o,GX_none hn]
   have HF:=qh hfin;have HBF:=qh (HBW.o.trans (HI2.o.bel.mono HBW.o.size));clear hfin hn hb2;dsimp only;go_wp2_with fail;go_ret2
   rw [HF.o];exact ⟨⟨none,0,0,rfl,HNIL.o _⟩,HBF.o.alloc HBF.o.size _⟩
  obtain ⟨hkl,hk0⟩:=condX_len hx;obtain ⟨hoF,hoT,⟨FA,fn,fc,rfl⟩,⟨TA,tn,tc,rfl⟩⟩:=hok;have hwne:0<ws.length:=by omega
  obtain ⟨b,o,rfl,hcell⟩:=HST1.o.at hwne;obtain rfl:n1=ws.length:=HST1.o.len;have HX:=qh hx;have HOF:=qh hoF;have HOT:=qh hoT;have HB2:=qh hb2;clear hx hoF hoT hb2 hcell;dsimp only;go_upto_region 6 with fail;have hal:Below w2.heap.size w2 (w2.alloc (.cells #[.int .u8 (d.letter:Int),.int .i64 d.mod,.bool d.nt,.slice FA fn fc,.slice TA tn tc] 118)):=(Below.refl _ _).alloc ql _;refine wp_letter (fun wx=>Blk wx w2.heap.size 118 (five (d,.slice FA fn fc,.slice TA tn tc))∧RuG W wx hi g cap xs xl es R∧IntsB wx wo.heap.size (.slice FA fn fc) d.fr∧IntsB wx wo.heap.size (.slice TA tn tc) d.to∧wo.heap.size≤wx.heap.size) ⟨Blk.made _ 118 _ _ _ rfl rfl,HI2.o.below hal,HOF.o.below hal,HOT.o.below hal,Nat.le_trans hs2 hal.size⟩ ?_;clear hal;rintro wx ⟨x1,x2,x3,x4,x5⟩;generalize w2.heap.size=g6 at *
  have X1:=qh x1;have X2:=qh x2;have X3:=qh x3;have X4:=qh x4;have hsx:=x5;have hW:=x2.bel.size;have hgo:=(HI.o.out.lt g rfl).2;have hxlo:∀ k,xl.ownBlock=some k→k<wo.heap.size:=fun k hk=>(World.ownsRow.lt HI.o.cur k hk).2;have HXLO:=qh hxlo;clear x1 x2 x3 x4 x5 HI2 HOF HOT HB2 hxlo;obtain ⟨rl,hrl⟩:∃ rl,R.length=rl:=⟨_,rfl⟩;obtain ⟨r1,hr1⟩:∃ r1,rl+1=r1:=⟨_,rfl⟩;have hrlI:(r1:Int) - 1=(rl:Int):=by omega
  have hrl0:(0:Int)≤(rl:Int):=by omega
  have hrll:(rl:Int)<(r1:Int):=by omega
  have hr1b:r1≤300:=by omega
  have hwrl:IntKind.i64.wrap (rl:Int)=(rl:Int):=IntWalk.i64_in _ ⟨by omega,by omega⟩;rw [hrl,hr1]
  have hxlc:∀ w',Below wx.heap.size wx w'→w'.cell? ⟨g,rl,none⟩=some xl:=fun w' h=>by
   have h1:=(X2.o.below h).out.cellAt R.length (by omega);rw [← hrl,h1,List.getElem?_append_right (by have:=X2.o.rows.len;omega),show R.length - xs.length=0 by have:=X2.o.rows.len;omega]
   rfl
  have HXL:=qh hxlc;have HRL:=qh hrl;have HR1:=qh hr1;clear hxlc hrl hr1
  have HS8:Hid (∀ w',Below wx.heap.size wx w'→w'.cell? ⟨g,rl,none⟩=some xl∧w'.cell? ⟨g6,0,none⟩=some (.int .u8 (d.letter:Int))∧w'.cell? ⟨g6,1,none⟩=some (.int .i64 d.mod)∧w'.cell? ⟨g6,2,none⟩=some (.bool d.nt)∧w'.cell? ⟨g6,3,none⟩=some (.slice FA fn fc)∧w'.cell? ⟨g6,4,none⟩=some (.slice TA tn tc)):=fun w' h=>by
   have e6:=X1.o.below h X1.o.lt;exact ⟨HXL.o w' h,e6.cell 0,e6.cell 1,e6.cell 2,e6.cell 3,e6.cell 4⟩
  go_wp2_with fail;go_upto_region 8 with fail;refine wp_region_but (fun w'=>w'.cell? ⟨g,rl,none⟩=some xl∧w'.cell? ⟨g6,0,none⟩=some (.int .u8 (d.letter:Int))∧w'.cell? ⟨g6,1,none⟩=some (.int .i64 d.mod)∧w'.cell? ⟨g6,2,none⟩=some (.bool d.nt)∧w'.cell? ⟨g6,3,none⟩=some (.slice FA fn fc)∧w'.cell? ⟨g6,4,none⟩=some (.slice TA tn tc)) (by kernel_rfl) (by kernel_rfl) (HS8.o _ (Below.refl _ _).drew) (fun hHeld=>?_);simp only [initL,lastL];refine takeA (i:=0) ?_
  try simp only [Act.put,MT,M0,M1]
  refine takeA (i:=1) ?_
  try simp only [Act.put,MT,M0,M1]
  refine takeA (i:=2) ?_
  try simp only [Act.put,MT,M0,M1]
  refine takeA (i:=3) ?_
  try simp only [Act.put,MT,M0,M1]
  refine takeA (i:=4) ?_
  try simp only [Act.put,MT,M0,M1]
  refine takeA (i:=5) ?_
  try simp only [Act.put,MT,M0,M1]
  refine takeA (i:=6) ?_
  try simp only [Act.put,MT,M0,M1]
  refine takeA (i:=7) ?_
  try simp only [Act.put,MT,M0,M1]
  refine takeA (i:=8) ?_
  try simp only [Act.put,MT,M0,M1]
  refine takeA (i:=9) ?_
  try simp only [Act.put,MT,M0,M1]
  refine takeA (i:=10) ?_
  try simp only [Act.put,MT,M0,M1]
  refine wpAnyH_letter (fun wz=>RuG W wz hi g cap xs xl es R∧Below wx.heap.size wx wz) ⟨X2.o.below (Below.refl _ _).drew,(Below.refl _ _).drew⟩ ?_;clear hHeld;rintro wz ⟨y1,y2⟩;have Y1:=qh y1;have Y2:=qh y2;have hHeld:=HS8.o wz y2;clear y1 y2;refine wpAnyH_ready (rs:=[11]) (by kernel_rfl) (by simp) ?_;refine consL rfl (fun K2 hK=>?_) AllReadyH.nil;go_simp
  try clear hHeld
  have hal:Below wz.heap.size wz (wz.alloc (.cells #[.int .u8 (d.letter:Int),.int .i64 d.mod,.bool d.nt,.slice FA fn fc,.slice TA tn tc] 118)):=(Below.refl _ _).alloc ql _;refine hK.out _ _ (HS8.o _ (Y2.o.trans (hal.mono Y2.o.size))) (fun hHeld=>?_);clear hK K2 hHeld
  try simp only [Act.put,MT,M0,M1]
  refine wpAnyH_letter (fun wy=>Blk wy wz.heap.size 118 (five (d,.slice FA fn fc,.slice TA tn tc))∧RuG W wy hi g cap xs xl es R∧Below wx.heap.size wx wy) ⟨Blk.made _ 118 _ _ _ rfl rfl,Y1.o.below hal,Y2.o.trans (hal.mono Y2.o.size)⟩ ?_;clear hal Y1 Y2;generalize wz.heap.size=gb at *
  rintro wy ⟨y0,y1,y2⟩;have hHeld:=HS8.o wy y2;have e6:=X1.o.below y2 X1.o.lt;have he1:=(X3.o.below y2).1;have he2:=(X4.o.below y2).1
  have hke:∀ k,(Value.slice FA fn fc).ownBlock=some k∨(Value.slice TA tn tc).ownBlock=some k→W.heap.size≤k∧k<wy.heap.size∧g≠k∧xl.ownBlock≠some k:=fun k hk=>by
   have h1:wo.heap.size≤k∧k<wy.heap.size:=by
    rcases hk with h|h
    ·exact (X3.o.below y2).2 k h
    ·exact (X4.o.below y2).2 k h
   exact ⟨by omega,h1.2,by omega,fun e=>by have:=HXLO.o k e;omega⟩
  have hszy:=y1.bel.size;refine wpAnyH_ready (rs:=[12]) (by kernel_rfl) (by simp) ?_;refine consL rfl (fun K2 hK=>?_) AllReadyH.nil;refine step_append_lies _ rfl (.tmp 32) (.tmp 34) 121 rfl W.heap.size 118 i7 (.agg #[.int .u8 0,.int .i64 0,.bool false,.slice none 0 0,.slice none 0 0]) 5 72 Tryz.underlying121 hi7 hz70 hz71 hz72 rfl (by decide) xl es.length (cellsC es) rfl y1.cur ⟨gb,0,none⟩ 1 1 (five (d,.slice FA fn fc,.slice TA tn tc)) rfl rfl (World.news_of_block y0) (five_one _ ⟨⟨_,_,_,rfl⟩,⟨_,_,_,rfl⟩⟩) (by omega) (by omega) (by omega) hszy wy.heap.size rfl ?_;intro g' cap' w8 hown hgrow hat hlt8;clear hHeld;obtain ⟨hp1,hp2,hp3⟩:=y1.push (e:=(d,.slice FA fn fc,.slice TA tn tc)) he1 he2 hke hgrow hown hat;have e8:=e6.kept hgrow (fun e=>by have:=HXLO.o g6 e.symm;omega);rw [HRL.o] at hp1 hp2 hp3;have HP1:=qh hp1;have HP2:=qh hp2;refine hK.out _ _ ⟨hp2,e8.cell 0,e8.cell 1,e8.cell 2,e8.cell 3,e8.cell 4⟩ (fun hHeld=>?_);clear hK K2 y0 y1 y2 e6 he1 he2 hke hown hgrow hat e8 hp1 hp2
  try simp only [Act.put,MT,M0,M1]
  refine takeA (i:=13) ?_
  try simp only [Act.put,MT,M0,M1]
  refine wpAnyH_done (by kernel_rfl) ?_ _;have hp2:=HP2.o;clear hHeld;refine tailQ_step (a':=?a1) (w':=?w1) (fun K Q' hK=>?h1) ?k1
  case h1=>(go_simp;exact hK)
  try simp only [Act.put,MT,M0,M1]
  go_upto_region 9 with fail;refine wp_letter (fun wv=>RuG W wv hi g cap xs (.slice (some ⟨g',0,none⟩) (es.length+1) cap') (es ++ [(d,.slice FA fn fc,.slice TA tn tc)]) R) HP1.o ?_;clear HP1 hp2 hp3 HP2;intro wv hv;have HV:=qh hv;clear hv X1 X2 X3 X4 HS8 HXL HXLO HI;have hrl:=HRL.o;have hr1:=HR1.o;subst hrl;subst hr1;clear HRL HR1 hrlI hrll hrl0 hwrl hr1b;have hcap:=HST1.o.cap;obtain ⟨o2,ho2,hst2⟩:=HST1.o.behind k hkl;obtain ⟨n2,hn2⟩:∃ n2,ws.length - k=n2:=⟨_,rfl⟩;obtain ⟨c2,hc2⟩:∃ c2,c1 - k=c2:=⟨_,rfl⟩;rw [hn2,hc2] at hst2;have hn2I:(ws.length:Int) - (k:Int)=(n2:Int):=by omega
  have hc2I:(c1:Int) - (k:Int)=(c2:Int):=by omega
  have hkI0:(0:Int)≤(k:Int):=by omega
  have hkI1:(k:Int)≤(ws.length:Int):=by omega
  have hkI2:(k:Int)≤(c1:Int):=by omega
  have hkI3:(ws.length:Int)≤(c1:Int):=by omega
  have HST2:=qh hst2;have hn2b:n2≤257:=by omega
  have hdl:(ws.drop k).length=n2:=by rw [List.length_drop];omega
  have HBF:=qh (HBW.o.trans (HV.o.bel.mono HBW.o.size));have HN2:=qh hn2;have HC2:=qh hc2;have HO2:=qh ho2;have hszv:=HV.o.bel.size;clear hst2;cases hd:ws.drop k with
  | nil =>
   rw [hd] at hdl;obtain rfl:n2=0:=by simpa using hdl.symm
   have hfin:PE=(0,R ++ [(es ++ [(d,Value.slice FA fn fc,Value.slice TA tn tc)]).map (·.1)]):=by
    rw [HP.o,← HGX.o,GX_end HX.o hd,List.map_append];rfl
   have HF:=qh hfin;clear hfin hd hdl;go_wp2_with fail;go_ret2
   rw [HF.o];exact ⟨⟨_,_,_,rfl,HV.o.is.mono HBW.o.size⟩,HBF.o⟩
  | cons x t =>
   rw [hd] at hdl;have htl:t.length+1=n2:=by simpa using hdl
   have hck:c1≠k:=by have:=HST2.o.cap;omega
   rw [if_neg hck] at ho2;have hok2:o+k=o2:=by cases ho2;rfl
   clear ho2 HO2 hck;have hn2p:((n2:Int) == 0)=false:=by rw [beq_eq_false_iff_ne];omega
   have hn20:(0:Int)<(n2:Int):=by omega
   have hmem:∀ y ∈ x :: t,y.length≤1000:=fun y hy=>HM.o y (List.mem_of_mem_drop (i:=k) (by rw [hd];exact hy));obtain ⟨b',o',hbo,hc'⟩:=HST2.o.at (by rw [hd];simp);cases hbo
   have k0:wv.cell? ⟨b,o2,none⟩=some (.string ⟨x.toArray⟩):=by
    have h1:=hc' 0 x (by rw [hd];rfl);rw [Nat.add_zero] at h1;exact (HV.o.bel.cell (World.block_lt_of_cell? W _ h1)).trans h1
   have hcap2:=HST2.o.cap;obtain ⟨o3,ho3,hst3⟩:=HST2.o.behind 1 (by omega);rw [List.drop_drop] at hst3
   have htd:ws.drop (k+1)=t:=by
    have h1:=congrArg (List.drop 1) hd;rw [List.drop_drop] at h1;simpa using h1
   rw [htd] at hst3;obtain ⟨n3,hn3⟩:∃ n3,n2 - 1=n3:=⟨_,rfl⟩;obtain ⟨c3,hc3⟩:∃ c3,c2 - 1=c3:=⟨_,rfl⟩;rw [hn3,hc3] at hst3;have hn3I:(n2:Int) - 1=(n3:Int):=by omega
   have hc3I:(c2:Int) - 1=(c3:Int):=by omega
   have hkJ1:(1:Int)≤(n2:Int):=by omega
   have hkJ2:(1:Int)≤(c2:Int):=by omega
   have hkJ3:(n2:Int)≤(c2:Int):=by omega
   have HST3:=qh hst3;have HD:=qh hd;have HTM:=qh (fun y hy=>hmem y (List.mem_cons_of_mem _ hy));have HN3:=qh hn3;have HO3:=qh ho3;have HTL:=qh htl;have HLEN:=qh hlen;clear hst3 hd hdl hmem hc' htd;by_cases ha:x=wAnd
   ·have i1:(x != [97,110,100])=false:=by rw [ha];rfl
    have i2:(x == [97,110,100])=true:=by rw [ha];rfl
    have i3:(x == [111,114])=false:=by rw [ha];rfl
    have i4:(x != [111,114])=true:=by rw [ha];rfl
    have hgx:GX R ((es ++ [(d,Value.slice FA fn fc,Value.slice TA tn tc)]).map (·.1)) t=rule? s:=by
     rw [← HGX.o,GX_and HX.o (by rw [HD.o,ha]),List.map_append];rfl
    have HG2:=qh hgx;clear ha hgx;go_wp2_with fail;go_roundw
    case rel=>exact ⟨some ⟨b,o3,none⟩,n3,c3,t,hi,g,cap,xs,_,_,R,rfl,rfl,HST3.o,HV.o,HG2.o,by have:=HLEN.o;have:=HTL.o;have:=HN2.o;simp;omega,HTM.o⟩
    case measure=>have:=HN3.o;have:=HN2.o;simp [lenOf];omega
   by_cases ho:x=wOr
   ·have i1:(x != [97,110,100])=true:=by rw [ho];rfl
    have i2:(x == [97,110,100])=false:=by rw [ho];rfl
    have i3:(x == [111,114])=true:=by rw [ho];rfl
    have i4:(x != [111,114])=false:=by rw [ho];rfl
    have hgx:GX (R ++ [(es ++ [(d,Value.slice FA fn fc,Value.slice TA tn tc)]).map (·.1)]) [] t=rule? s:=by
     rw [← HGX.o,GX_or HX.o (by rw [HD.o,ho]),List.map_append];rfl
    have HG2:=qh hgx;have hRb:R.length≤300:=by omega
    clear ha ho hgx;go_wp2_with (at_builtin;refine wpList_append_lies _ (by rfl) _ _ 58 (by rfl) W.heap.size 121 i8 (.slice none 0 0) 1 24 Tryz.underlying58 hi8 hz80 hz81 hz82 rfl (by decide) (.slice (some ⟨g,0,none⟩) (R.length+1) cap) (R.length+1) (xs ++ [.slice (some ⟨g',0,none⟩) (es.length+1) cap']) (by rfl) (World.ownsRow.alloc HV.o.out _) ⟨wv.heap.size,0,none⟩ 1 1 [.slice none 0 0] (by rfl) rfl (cell_one_new _ _ _) (by simp [Value.oneCell']) (by omega) (by omega) (by omega) (by simp;omega) (wv.heap.size+1) (by simp) ?_;intro g2 cap2 w9 hown hgrow hat hlt9;have HO7:=qh hown;have HG7:=qh hgrow;have HA7:=qh hat;clear hown hgrow hat)
    go_roundw
    case rel =>
     have hv2:RuG W (wv.alloc (.cells #[.slice none 0 0] 121)) hi g cap xs (.slice (some ⟨g',0,none⟩) (es.length+1) cap') (es ++ [(d,.slice FA fn fc,.slice TA tn tc)]) R:=HV.o.below ((Below.refl _ _).alloc ql _);refine ⟨some ⟨b,o3,none⟩,n3,c3,t,_,g2,cap2,_,_,_,R ++ [(es ++ [(d,Value.slice FA fn fc,Value.slice TA tn tc)]).map (·.1)],rfl,?_,HST3.o,hv2.next HG7.o HO7.o (HA7.o.imp id fun h=>by rw [h];simp),HG2.o,by have:=HLEN.o;have:=HTL.o;have:=HN2.o;simp;omega,HTM.o⟩;rw [List.length_append];rfl
    case measure=>have:=HN3.o;have:=HN2.o;simp [lenOf];omega
   ·have i1:(x != [97,110,100])=true:=by simpa [wAnd] using ha
    have i2:(x == [97,110,100])=false:=by simpa [wAnd] using ha
    have i3:(x == [111,114])=false:=by simpa [wOr] using ho
    have i4:(x != [111,114])=true:=by simpa [wOr] using ho
    have hfin:PE=(2,[]):=by rw [HP.o,← HGX.o,GX_bad HX.o HD.o ha ho]
    have HF:=qh hfin;clear hfin ha ho;go_wp2_with fail;go_ret2
    rw [HF.o];exact ⟨⟨none,0,0,rfl,HNIL.o _⟩,HBF.o⟩
theorem ref_ParseRule (w:World) (s:Bs) (hs:s.length≤70000000000) :
  Calls Tryz.prog 21 #[.string ⟨s.toArray⟩] w fun e w'=>(∃ A n c,e=.returned (.tuple #[.slice A n c,.int .i64 ((parseR s).1:Nat)])∧RuleIs w' A n c (parseR s).2)∧Below w.heap.size w w' :=
 (ref_ParseRuleB w s hs).mono fun _ _ ⟨⟨A,n,c,h1,h2⟩,h3⟩=>⟨⟨A,n,c,h1,h2.is⟩,h3⟩
abbrev Er:=Bs × Bs × Rl
def toM (E:List Er):PMap:=fun k=>(E.filter fun e=>decide (e.1=k)).map (·.2)
theorem toM_put {E:List Er} {ws:List Bs} {l c:Bs} {r:Rl} (hl:ws.getD 0 []=l) (hc:ws.getD 1 []=c) (hr:rowCode (toM E) ws=(0,r)):toM (E ++ [(l,c,r)])=rowPut (toM E) ws:=by
 funext k
 unfold rowPut;rw [hl,hc,hr];unfold toM;rw [List.filter_append,List.map_append];by_cases e:k=l
 ·subst e;simp
 ·rw [if_neg e];simp [Ne.symm e]
theorem toM_any {E:List Er} {l c:Bs}:(toM E l).any (fun e=>decide (e.1=c))=E.any fun e=>decide (e.1=l) && decide (e.2.1=c):=by
 unfold toM;rw [List.any_map,List.any_filter];rfl
theorem toM_any_at {E:List Er} {l c:Bs} {k:Nat} {e:Er} (hx:E[k]?=some e) (h1:e.1=l) (h2:e.2.1=c):(toM E l).any (fun e=>decide (e.1=c))=true:=by
 rw [toM_any,List.any_eq_true];exact ⟨e,List.mem_of_getElem? hx,by simp [h1,h2]⟩
theorem toM_any_no {E:List Er} {l c:Bs} (h:∀ e ∈ E,¬ (e.1=l∧e.2.1=c)):¬ (toM E l).any (fun e=>decide (e.1=c))=true:=by
 rw [toM_any,List.any_eq_true];rintro ⟨e,he,h2⟩;exact h e he (by simpa using h2)
theorem sel_hit {E:List Er} {lang:Bs} {val:Nat→Nat × Nat} {j:Nat} {e:Er} (hx:E[j]?=some e) (h1:e.1=lang) (h2:holdsV val e.2.2=true) (hno:∀ x ∈ E.take j,¬ (x.1=lang∧holdsV val x.2.2=true)):selectP (toM E) lang val=e.2.1:=by
 unfold selectP toM
 rw [List.find?_map,List.find?_filter,find_take hx (by simp [h1,h2]) (fun x hx=>by
  have:=hno x hx
  simpa using this)]
 rfl
theorem sel_miss {E:List Er} {lang:Bs} {val:Nat→Nat × Nat} (hno:∀ x ∈ E,¬ (x.1=lang∧holdsV val x.2.2=true)):selectP (toM E) lang val=wOther:=by
 unfold selectP toM
 rw [List.find?_map,List.find?_filter,List.find?_eq_none.2 (fun x hx=>by
  have:=hno x hx
  simpa using this)]
 rfl
theorem of_toM (E:List Er) (lang:Bs):ofP (toM E) lang=(E.filter fun e=>decide (e.1=lang)).map (·.2.1) ++ [wOther]:=by
 unfold ofP toM;rw [List.map_map];rfl
def MutL (gp:Nat) (v1 v2 v3:Value) (m:Nat):Prop:=m=gp∨v1.ownBlock=some m∨v2.ownBlock=some m∨v3.ownBlock=some m
structure RLd (w0 W w:World) (gp:Nat) (l1 l2 l3 v1 v2 v3:Value) (c1 c2 c3 xs:List Value) (E:List Er):Prop where
 blk:Blk w gp 137 [l1,l2,l3]
 o1:w.ownsRow W.heap.size 9 1 v1 c1.length c1
 o2:w.ownsRow W.heap.size 9 1 v2 c2.length c2
 o3:w.ownsRow W.heap.size 58 1 v3 c3.length c3
 rule:F2 (fun x e=>KeptR W.heap.size w (MutL gp v1 v2 v3) (e.2.1,x,e.2.2)) xs E
 a12:Apart v1 v2
 a13:Apart v1 v3
 a23:Apart v2 v3
 bel:Below w0.heap.size w0 w
 lt:gp<W.heap.size
 lo:w0.heap.size≤gp
 le:W.heap.size≤w.heap.size
theorem RLd.below {w0 W w w':World} {gp:Nat} {l1 l2 l3 v1 v2 v3:Value} {c1 c2 c3 xs:List Value} {E:List Er} (h:RLd w0 W w gp l1 l2 l3 v1 v2 v3 c1 c2 c3 xs E) (hb:Below w.heap.size w w'):RLd w0 W w' gp l1 l2 l3 v1 v2 v3 c1 c2 c3 xs E :=
 ⟨h.blk.below hb h.blk.lt,own_kept_below h.o1 hb,own_kept_below h.o2 hb,own_kept_below h.o3 hb,h.rule.mono fun x e k=>k.step hb.size (fun b hlt _=>hb.block b hlt) (fun m hm=>.inl hm),h.a12,h.a13,h.a23,h.bel.trans (hb.mono h.bel.size),h.lt,h.lo,Nat.le_trans h.le hb.size⟩
theorem RLd.alloc {w0 W w:World} {gp:Nat} {l1 l2 l3 v1 v2 v3:Value} {c1 c2 c3 xs:List Value} {E:List Er} (h:RLd w0 W w gp l1 l2 l3 v1 v2 v3 c1 c2 c3 xs E) (o:Obj):RLd w0 W (w.alloc o) gp l1 l2 l3 v1 v2 v3 c1 c2 c3 xs E:=h.below ((Below.refl _ _).alloc ql _)
theorem apart_new {w:World} {B g n cap:Nat} {v u:Value} {e:TypeId} {sz m:Nat} {xs:List Value} (ha:Apart v u) (hu:w.ownsRow B e sz u m xs) (hat:v.ownBlock=some g∨g=w.heap.size):Apart (.slice (some ⟨g,0,none⟩) n cap) u:=by
 right;rcases hat with e|e
 ·rcases ha with h|h
  ·rw [h] at e;cases e
  ·rw [← show v.ownBlock=Value.ownBlock (.slice (some ⟨g,0,none⟩) n cap) from e];exact h
 ·intro e2;have:=(World.ownsRow.lt hu g e2.symm).2;omega
theorem mutL_new {w:World} {gp g n cap:Nat} {v:Value} {M:Nat→Prop} (hv:∀ m,v.ownBlock=some m→M m) (hat:v.ownBlock=some g∨g=w.heap.size):∀ m,Value.ownBlock (.slice (some ⟨g,0,none⟩) n cap)=some m→M m∨w.heap.size≤m:=by
 intro m hm;obtain rfl:g=m:=by simpa [Value.ownBlock] using hm
 rcases hat with e|e
 ·exact .inl (hv _ e)
 ·exact .inr (by omega)
theorem RLd.push1 {w0 W w w':World} {gp:Nat} {l1 l2 l3 v1 v2 v3:Value} {c1 c2 c3 xs:List Value} {E:List Er} (h:RLd w0 W w gp l1 l2 l3 v1 v2 v3 c1 c2 c3 xs E) {g cap:Nat} {x:Value} (hg:w.grownBy w' v1.ownBlock) (ho:w'.ownsRow W.heap.size 9 1 (.slice (some ⟨g,0,none⟩) (c1.length+1) cap) (c1.length+1) (c1 ++ [x])) (hat:v1.ownBlock=some g∨g=w.heap.size) :
  RLd w0 W w' gp l1 l2 l3 (.slice (some ⟨g,0,none⟩) (c1.length+1) cap) v2 v3 (c1 ++ [x]) c2 c3 xs E :=
 ⟨h.blk.kept hg (own_ne h.o1 h.lt),by rw [List.length_append];exact ho,World.ownsRow.kept h.o2 hg h.a12.symm,World.ownsRow.kept h.o3 hg h.a13.symm,h.rule.mono fun x e k=>k.step hg.size (fun b hlt hnm=>hg.block b hlt (fun e=>hnm (.inr (.inl e.symm)))) (fun m hm=>by
   rcases hm with e|e|e|e
   ·exact .inl (.inl e)
   ·exact mutL_new (w:=w) (gp:=gp) (M:=MutL gp v1 v2 v3) (fun m e=>.inr (.inl e)) hat m e
   ·exact .inl (.inr (.inr (.inl e)))
   ·exact .inl (.inr (.inr (.inr e)))),apart_new h.a12 h.o2 hat,apart_new h.a13 h.o3 hat,h.a23,below_grown h.bel hg h.bel.size (fun j hj=>by have:=(World.ownsRow.lt h.o1 j hj).1;have:=h.lt;have:=h.lo;omega),h.lt,h.lo,Nat.le_trans h.le hg.size⟩
theorem RLd.push2 {w0 W w w':World} {gp:Nat} {l1 l2 l3 v1 v2 v3:Value} {c1 c2 c3 xs:List Value} {E:List Er} (h:RLd w0 W w gp l1 l2 l3 v1 v2 v3 c1 c2 c3 xs E) {g cap:Nat} {x:Value} (hg:w.grownBy w' v2.ownBlock) (ho:w'.ownsRow W.heap.size 9 1 (.slice (some ⟨g,0,none⟩) (c2.length+1) cap) (c2.length+1) (c2 ++ [x])) (hat:v2.ownBlock=some g∨g=w.heap.size) :
  RLd w0 W w' gp l1 l2 l3 v1 (.slice (some ⟨g,0,none⟩) (c2.length+1) cap) v3 c1 (c2 ++ [x]) c3 xs E :=
 ⟨h.blk.kept hg (own_ne h.o2 h.lt),World.ownsRow.kept h.o1 hg h.a12,by rw [List.length_append];exact ho,World.ownsRow.kept h.o3 hg h.a23.symm,h.rule.mono fun x e k=>k.step hg.size (fun b hlt hnm=>hg.block b hlt (fun e=>hnm (.inr (.inr (.inl e.symm))))) (fun m hm=>by
   rcases hm with e|e|e|e
   ·exact .inl (.inl e)
   ·exact .inl (.inr (.inl e))
   ·exact mutL_new (w:=w) (gp:=gp) (M:=MutL gp v1 v2 v3) (fun m e=>.inr (.inr (.inl e))) hat m e
   ·exact .inl (.inr (.inr (.inr e)))),(apart_new h.a12.symm h.o1 hat).symm,h.a13,apart_new h.a23 h.o3 hat,below_grown h.bel hg h.bel.size (fun j hj=>by have:=(World.ownsRow.lt h.o2 j hj).1;have:=h.lt;have:=h.lo;omega),h.lt,h.lo,Nat.le_trans h.le hg.size⟩
theorem RLd.push3 {w0 W w w':World} {gp:Nat} {l1 l2 l3 v1 v2 v3:Value} {c1 c2 c3 xs:List Value} {E:List Er} (h:RLd w0 W w gp l1 l2 l3 v1 v2 v3 c1 c2 c3 xs E) {g cap:Nat} {x:Value} (hg:w.grownBy w' v3.ownBlock) (ho:w'.ownsRow W.heap.size 58 1 (.slice (some ⟨g,0,none⟩) (c3.length+1) cap) (c3.length+1) (c3 ++ [x])) (hat:v3.ownBlock=some g∨g=w.heap.size) :
  RLd w0 W w' gp l1 l2 l3 v1 v2 (.slice (some ⟨g,0,none⟩) (c3.length+1) cap) c1 c2 (c3 ++ [x]) xs E :=
 ⟨h.blk.kept hg (own_ne h.o3 h.lt),World.ownsRow.kept h.o1 hg h.a13,World.ownsRow.kept h.o2 hg h.a23,by rw [List.length_append];exact ho,h.rule.mono fun x e k=>k.step hg.size (fun b hlt hnm=>hg.block b hlt (fun e=>hnm (.inr (.inr (.inr e.symm))))) (fun m hm=>by
   rcases hm with e|e|e|e
   ·exact .inl (.inl e)
   ·exact .inl (.inr (.inl e))
   ·exact .inl (.inr (.inr (.inl e)))
   ·exact mutL_new (w:=w) (gp:=gp) (M:=MutL gp v1 v2 v3) (fun m e=>.inr (.inr (.inr e))) hat m e),h.a12,(apart_new h.a13.symm h.o1 hat).symm,(apart_new h.a23.symm h.o2 hat).symm,below_grown h.bel hg h.bel.size (fun j hj=>by have:=(World.ownsRow.lt h.o3 j hj).1;have:=h.lt;have:=h.lo;omega),h.lt,h.lo,Nat.le_trans h.le hg.size⟩
theorem RLd.set {w0 W w:World} {gp:Nat} {l1 l2 l3 v1 v2 v3:Value} {c1 c2 c3 xs:List Value} {E:List Er} (h:RLd w0 W w gp l1 l2 l3 v1 v2 v3 c1 c2 c3 xs E):RLd w0 W (((w.setCell ⟨gp,0,none⟩ v1).setCell ⟨gp,1,none⟩ v2).setCell ⟨gp,2,none⟩ v3) gp v1 v2 v3 v1 v2 v3 c1 c2 c3 xs E:=by
 have hset:w.grownBy (((w.setCell ⟨gp,0,none⟩ v1).setCell ⟨gp,1,none⟩ v2).setCell ⟨gp,2,none⟩ v3) (some gp):=grown_set (grown_set (grown_set (grown_refl _ _) _ _) _ _) _ _
 exact ⟨((h.blk.put 0 v1).put 1 v2).put 2 v3,World.ownsRow.kept h.o1 hset (.inr (Ne.symm (own_ne h.o1 h.lt))),World.ownsRow.kept h.o2 hset (.inr (Ne.symm (own_ne h.o2 h.lt))),World.ownsRow.kept h.o3 hset (.inr (Ne.symm (own_ne h.o3 h.lt))),
  h.rule.mono fun x e k=>k.step hset.size (fun b hlt hnm=>hset.block b hlt (fun e=>hnm (.inl (by cases e;rfl)))) (fun m hm=>.inl hm),h.a12,h.a13,h.a23,below_set (below_set (below_set h.bel _ _ h.lo _) _ _ h.lo _) _ _ h.lo _,h.lt,h.lo,Nat.le_trans h.le hset.size⟩
theorem RLd.start (w0 W:World) (gp:Nat) (hb:Blk W gp 137 [.slice none 0 0,.slice none 0 0,.slice none 0 0]) (hB:Below w0.heap.size w0 W) (hlo:w0.heap.size≤gp):RLd w0 W W gp (.slice none 0 0) (.slice none 0 0) (.slice none 0 0) (.slice none 0 0) (.slice none 0 0) (.slice none 0 0) [] [] [] [] [] :=
 ⟨hb,World.ownsRow_nil _ _ _ _,World.ownsRow_nil _ _ _ _,World.ownsRow_nil _ _ _ _,.nil,.inl rfl,.inl rfl,.inl rfl,hB,hb.lt,hlo,ql⟩
theorem RLd.rules {w0 W w w':World} {gp:Nat} {l1 l2 l3 v1 v2 v3:Value} {c1 c2 c3 xs:List Value} {E:List Er} (h:RLd w0 W w gp l1 l2 l3 v1 v2 v3 c1 c2 c3 xs E) {A:Option Addr} {n c:Nat} {l ct:Bs} {r:Rl} (hb:Below w.heap.size w w') (hr:RuleAreB w.heap.size w' A n c r):RLd w0 W w' gp l1 l2 l3 v1 v2 v3 c1 c2 c3 (xs ++ [.slice A n c]) (E ++ [(l,ct,r)]):=by
 have k:=h.below hb
 have hm:∀ m,MutL gp v1 v2 v3 m→m<w.heap.size:=by
  rintro m (rfl|e|e|e)
  ·exact Nat.lt_of_lt_of_le h.lt h.le
  ·exact (World.ownsRow.lt h.o1 m e).2
  ·exact (World.ownsRow.lt h.o2 m e).2
  ·exact (World.ownsRow.lt h.o3 m e).2
 exact ⟨k.blk,k.o1,k.o2,k.o3,F2.snoc k.rule ⟨A,n,c,w.heap.size,w',rfl,h.le,hr,ql,fun _ _ _=>rfl,fun m e=>.inl (hm m e)⟩,k.a12,k.a13,k.a23,k.bel,k.lt,k.lo,k.le⟩
def PlR (w:World) (gp:Nat) (E:List Er):Prop :=
 ∃ LA lc CA cc RA rc xs,Blk w gp 137 [.slice LA E.length lc,.slice CA E.length cc,.slice RA E.length rc]∧StrsAre w LA E.length lc (E.map (·.1))∧StrsAre w CA E.length cc (E.map (·.2.1))∧SlC w (.slice RA E.length rc) 1 E.length xs∧F2 (fun x e=>∃ A n c,x=.slice A n c∧RuleIs w A n c e.2.2) xs E
theorem PlR.below {w w':World} {gp:Nat} {E:List Er} (h:PlR w gp E) (hb:Below w.heap.size w w'):PlR w' gp E:=by
 obtain ⟨LA,lc,CA,cc,RA,rc,xs,h1,h2,h3,h4,h5⟩:=h;exact ⟨LA,lc,CA,cc,RA,rc,xs,h1.below hb h1.lt,h2.below hb ql,h3.below hb ql,h4.below hb ql,h5.mono fun x e ⟨A,n,c,h6,h7⟩=>⟨A,n,c,h6,h7.below hb ql⟩⟩
theorem RLd.is {w0 W w:World} {gp:Nat} {v1 v2 v3:Value} {xs:List Value} {E:List Er} (h:RLd w0 W w gp v1 v2 v3 v1 v2 v3 (strs (E.map (·.1))) (strs (E.map (·.2.1))) xs xs E):PlR w gp E:=by
 have s1:=SlC.own h.o1;have s2:=SlC.own h.o2;have s3:=SlC.own h.o3;have e1:(strs (E.map (·.1))).length=E.length:=by simp [strs]
 have e2:(strs (E.map (·.2.1))).length=E.length:=by simp [strs]
 rw [e1] at s1;rw [e2] at s2;rw [h.rule.len] at s3;obtain ⟨LA,lc,rfl,-⟩:=id s1;obtain ⟨CA,cc,rfl,-⟩:=id s2;obtain ⟨RA,rc,rfl,-⟩:=id s3;exact ⟨LA,lc,CA,cc,RA,rc,xs,h.blk,by unfold StrsAre;rw [List.length_map];exact s1,by unfold StrsAre;rw [List.length_map];exact s2,s3,h.rule.mono fun x e k=>k.is⟩
end Go.Proofs.YtdgleeglndcjhaaGreatDoor
