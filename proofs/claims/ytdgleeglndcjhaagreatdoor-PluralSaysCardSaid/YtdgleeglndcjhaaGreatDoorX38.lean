import Derived.Test.YtdgleeglndcjhaaGreatDoorX34
namespace Go
variable {P:Program} {Q:Exit→Act→World→Prop} {S:World→Prop}
def tailsQ (P:Program):List Oper→(Exit→Act→World→Prop)→Exit→Act→World→Prop
 | [],Q=>Q
 | o :: t,Q=>TailQ P o (tailsQ P t Q)
def lastOkP (pre:List Nat) (ops:Array Oper) (o:Oper):Bool :=
 o.guard.isNone &&
 (List.range ops.size).all (fun i =>
  (match ops[i]? with
   | some p=>p.after.all (fun e=>!Region.binds .any e || decide (e.on<i)) && (match p.guard with|some (g,_)=>decide (g<ops.size)|none=>true)
   | none=>true) &&
  (pre.contains i || (o.after.any (fun e=>Region.binds .any e && e.on == i) ||
   (List.range ops.size).any fun j=>decide (i<j) && match ops[j]? with
    | some p=>p.after.any (fun e=>Region.binds .any e && e.on == i)
    | none=>false))) &&
 o.after.all (fun e=>decide (e.on<ops.size))
structure PreOk (pre:List Nat) (ops:Array Oper) (o:Oper):Prop where
 guard:o.guard=none
 back:∀ (i:Nat) (p:Oper),ops[i]?=some p→(∀ e ∈ p.after,Region.binds .any e=true→e.on<i)∧∀ g b,p.guard=some (g,b)→g<ops.size
 next:∀ i:Nat,i<ops.size→i ∈ pre∨(∃ e ∈ o.after,Region.binds .any e=true∧e.on=i)∨∃ (j:Nat) (p:Oper),i<j∧ops[j]?=some p∧∃ e ∈ p.after,Region.binds .any e=true∧e.on=i
 last:∀ e ∈ o.after,e.on<ops.size
section
variable {ops:Array Oper} {o:Oper} {pre:List Nat}
theorem PreOk.of (h:lastOkP pre ops o=true):PreOk pre ops o:=by
 unfold lastOkP at h;simp only [Bool.and_eq_true,List.all_eq_true,List.mem_range,Option.isNone_iff_eq_none] at h;obtain ⟨⟨h1,h2⟩,h3⟩:=h;refine ⟨h1,fun i p hp=>?_,fun i hi=>?_,fun e he=>?_⟩
 ·have hi:i<ops.size:=(Array.getElem?_eq_some_iff.1 hp).1;have:=(h2 i hi).1;rw [hp] at this;simp only [Bool.and_eq_true] at this;refine ⟨fun e he=>?_,fun g b hg=>?_⟩
  ·intro hb;have h:=Array.all_eq_true_iff_forall_mem.1 this.1 e he;simpa [hb] using h
  ·have h:=this.2;rw [hg] at h;exact of_decide_eq_true h
 ·have:=(h2 i hi).2;simp only [Bool.or_eq_true,List.any_eq_true,List.mem_range] at this;rcases this with h|h|⟨j,hj,h⟩
  ·exact .inl (List.contains_iff_mem.1 h)
  ·obtain ⟨e,he,hb⟩:=Array.any_eq_true'.1 h;simp only [Bool.and_eq_true,beq_iff_eq] at hb;exact .inr (.inl ⟨e,he,hb.1,hb.2⟩)
  ·simp only [Bool.and_eq_true,decide_eq_true_eq] at h;have hp:ops[j]?=some ops[j]:=Array.getElem?_eq_getElem hj;have h':=h.2;rw [hp] at h';obtain ⟨e,he,hb⟩:=Array.any_eq_true'.1 h';simp only [Bool.and_eq_true,beq_iff_eq] at hb;exact .inr (.inr ⟨j,_,h.1,hp,e,he,hb.1,hb.2⟩)
 ·exact of_decide_eq_true (Array.all_eq_true_iff_forall_mem.1 h3 e he)
theorem PreOk.all (H:PreOk pre ops o) {listed:Array Bool} (hc:ClosedL ops listed) (hr:Region.ready .any ops listed=[]):∀ i,i<ops.size→listed.getD i true=true:=by
 intro i
 induction i using Nat.strongRecOn with
 | _ i ih =>
  intro hi;cases e:listed.getD i true with
  | true=>rfl
  | false =>
   have:i ∈ Region.ready .any ops listed:=by
    rw [mem_ready];refine ⟨e,ops[i],Array.getElem?_eq_getElem hi,fun d hd hb=>?_⟩;have hlt:=(H.back i _ (Array.getElem?_eq_getElem hi)).1 d hd hb;have:=ih d.on hlt (by omega);rw [getD_lt (by rw [hc.1];omega) false true];exact this
   rw [hr] at this;cases this
theorem PreOk.ready (H:PreOk pre ops o) {listed:Array Bool} (hc:ClosedL ops listed) (hp:∀ i ∈ pre,listed.getD i false=true) (ha:∀ e ∈ o.after,Region.binds .any e=true→listed.getD e.on false=true):∀ i,i<ops.size→listed.getD i true=true:=by
 have key:∀ k i,i<ops.size→ops.size - i=k→listed.getD i true=true:=by
  intro k
  induction k using Nat.strongRecOn with
  | _ k ih =>
   intro i hi hk;rw [getD_lt (by rw [hc.1];exact hi) true false];rcases H.next i hi with h|⟨e,he,hb,rfl⟩|⟨j,p,hj,hp,e,he,hb,rfl⟩
   ·exact hp i h
   ·exact ha e he hb
   ·have hjs:j<ops.size:=(Array.getElem?_eq_some_iff.1 hp).1;have hl:=ih (ops.size - j) (by omega) j hjs rfl;rw [getD_lt (by rw [hc.1];exact hjs) true false] at hl;exact hc.2 j p hp hl e he hb
 exact fun i hi=>key _ i hi rfl
theorem PreOk.fin (H:PreOk pre ops o) {listed:Array Bool} (hs:listed.size=ops.size) (hall:∀ i,i<ops.size→listed.getD i true=true) (fuel:Nat) {a:Act} {w:World} (h:TailQ P o Q .normal a w):wpAny P .any (ops.push o) Q (fuel+1) (listed.push false) a w:=by
 have hn:ops.size ∈ Region.ready .any (ops.push o) (listed.push false):=by
  rw [mem_ready];refine ⟨by simp [← hs],o,by simp,fun e he hb=>?_⟩;have:=H.last e he;rw [getD_push (by omega),getD_lt (by omega) false true];exact hall _ this
 have honly:∀ i ∈ Region.ready .any (ops.push o) (listed.push false),i=ops.size:=by
  intro i hi;have h1:=lt_of_ready hi;simp only [Array.size_push] at h1;rcases Nat.lt_or_ge i ops.size with h2|h2
  ·have h3:=(mem_ready.1 hi).1;rw [getD_push (by omega),hall i h2] at h3;cases h3
  ·omega
 refine ⟨fun h0=>(by rw [h0] at hn;cases hn),fun i hi=>?_⟩;have:=honly i hi;subst this;unfold wpOp;rw [Array.getElem?_push_size];have hw:Region.wanted o (yielded (ops.push o) a.tmps)=true:=by simp [Region.wanted,H.guard]
 simp only [hw,if_true];refine .inl (Oper.wp_mono (fun a w hq=>wpAny_done ?_ hq fuel) h)
 have:∀ i,i ∉ Region.ready .any (ops.push o) ((listed.push false).setIfInBounds ops.size true):=by
  intro i hi;have h1:=lt_of_ready hi;simp only [Array.size_push] at h1;have h3:=(mem_ready.1 hi).1;by_cases he:i=ops.size
  ·subst he;simp [← hs] at h3
  ·rw [getD_set_ne true (Ne.symm he),getD_push (by omega),hall i (by omega)] at h3;cases h3
 exact List.eq_nil_iff_forall_not_mem.2 this
theorem wpAny_tailP (H:PreOk pre ops o):∀ (fuel:Nat) (listed:Array Bool) (a:Act) (w:World),ClosedL ops listed→(∀ i ∈ pre,listed.getD i false=true)→wpAnyH P .any ops (TailQ P o Q) S fuel listed a w→wpAny P .any (ops.push o) Q (fuel+1) (listed.push false) a w
 | 0,listed,a,w,hc,hp,h=>H.fin hc.1 (H.all hc h.1) 0 h.2
 | fuel+1,listed,a,w,hc,hp,h=>by
  by_cases hr:Region.ready .any ops listed=[]
  ·exact H.fin hc.1 (H.all hc hr) _ (h.1 hr)
  ·obtain ⟨k,hk⟩:=List.exists_mem_of_ne_nil _ hr;have hks:=lt_of_ready hk;have hk0:=(mem_ready.1 hk).1;refine ⟨fun h0=>?_,fun i hi=>?_⟩
   ·have:=(ready_push (o:=o) (b:=false) hc.1 hks (fun p hp=>(H.back k p hp).1)).2 hk;rw [h0] at this;cases this
   ·have h1:=lt_of_ready hi;simp only [Array.size_push] at h1
    have his:i<ops.size:=by
     rcases Nat.lt_or_ge i ops.size with h2|h2
     ·exact h2
     ·exfalso;have:i=ops.size:=by omega
      subst this;obtain ⟨-,p,hq,hall⟩:=mem_ready.1 hi;rw [Array.getElem?_push_size] at hq;cases hq
      have:=H.ready hc hp (fun e he hb=>by
       have h:=hall e he hb
       rwa [getD_push (by have:=H.last e he;rw [hc.1];exact this)] at h) k hks
      rw [hk0] at this;cases this
    have hi':=(ready_push (o:=o) (b:=false) hc.1 his (fun p hp=>(H.back i p hp).1)).1 hi;refine wpOp_tail his (fun p g b hp hg=>(H.back i p hp).2 g b hg) (fun a' w' hk'=>?_) (h.2 i hi');have:=wpAny_tailP H fuel _ a' w' (hc.set hi') (fun j hj=>getD_set_true (hp j hj)) hk'.2;rw [show (listed.push false).setIfInBounds i true=(listed.setIfInBounds i true).push false from ?_]
    ·exact this
    ·have hls:i<listed.size:=by rw [hc.1];exact his
     simp only [Array.setIfInBounds,Array.size_push,hls,dif_pos,Nat.lt_succ_of_lt hls];rw [Array.set_push,dif_pos hls]
theorem ClosedL.push (H:PreOk pre ops o) {listed:Array Bool} (hc:ClosedL ops listed):ClosedL (ops.push o) (listed.push false):=by
 refine ⟨by simp [hc.1],fun j p hp hl e he hb=>?_⟩
 have hj:j<ops.size:=by
  have h1:=(Array.getElem?_eq_some_iff.1 hp).1;simp only [Array.size_push] at h1;rcases Nat.lt_or_ge j ops.size with h2|h2
  ·exact h2
  ·obtain rfl:j=ops.size:=by omega
   rw [show ops.size=listed.size from hc.1.symm] at hl;simp at hl
 have hls:j<listed.size:=by rw [hc.1];exact hj
 rw [Array.getElem?_push_lt hj,← Array.getElem?_eq_getElem hj] at hp;rw [getD_push hls] at hl;have:=(H.back j p hp).1 e he hb;rw [getD_push (by omega)];exact hc.2 j p hp hl e he hb
end
def lastsOkP (pre:List Nat):List Oper→List Oper→Bool
 | _,[]=>true
 | init,o :: t=>lastOkP pre init.toArray o && lastsOkP pre (init ++ [o]) t
theorem wpAny_tails {pre:List Nat} {a:Act} {w:World}:∀ (t init:List Oper) (o:Oper) (S:World→Prop) (fuel:Nat) (listed:List Bool),lastsOkP pre init (o :: t)=true→ClosedL init.toArray listed.toArray→(∀ i ∈ pre,listed.toArray.getD i false=true) →
  wpAnyH P .any init.toArray (tailsQ P (o :: t) Q) S fuel listed.toArray a w→wpAny P .any (init ++ o :: t).toArray Q (fuel+(t.length+1)) (listed ++ List.replicate (t.length+1) false).toArray a w
 | [],init,o,S,fuel,listed,hok,hc,hp,h=>by
  simp only [lastsOkP,Bool.and_eq_true] at hok;have k1:=wpAny_tailP (PreOk.of hok.1) _ _ a w hc hp h;rw [List.push_toArray,List.push_toArray] at k1;exact k1
 | o2 :: t,init,o,S,fuel,listed,hok,hc,hp,h=>by
  simp only [lastsOkP,Bool.and_eq_true] at hok;have H:=PreOk.of hok.1;have k1:=wpAny_tailP H _ _ a w hc hp h;have hc2:=hc.push H;rw [List.push_toArray,List.push_toArray] at k1 hc2
  have k2:=wpAny_tails t (init ++ [o]) o2 (fun _=>True) (fuel+1) (listed ++ [false]) (by simp only [lastsOkP,Bool.and_eq_true];exact hok.2) hc2 (fun i hi=>by
   have h1:=hp i hi
   have hlt:i<listed.toArray.size:=by
    rcases Nat.lt_or_ge i listed.toArray.size with h2|h2
    ·exact h2
    ·rw [Array.getD_eq_getD_getElem?,Array.getElem?_eq_none h2] at h1;cases h1
   rw [← List.push_toArray,getD_push hlt];exact h1) (wpAnyH_of_any _ _ _ _ k1)
  have e3:init ++ [o] ++ o2 :: t=init ++ o :: o2 :: t:=by simp
  have e4:listed ++ [false] ++ List.replicate (t.length+1) false=listed ++ List.replicate ((o2 :: t).length+1) false:=by
   rw [List.append_assoc];rfl
  rw [e3,e4,show fuel+1+(t.length+1)=fuel+((o2 :: t).length+1) by simp only [List.length_cons];omega] at k2;exact k2
def freeL (ops:List Oper) (listed:List Bool):Bool:=decide (listed.length=ops.length) && (List.range ops.length).all fun j=>!listed.getD j false || match ops[j]? with|some p=>p.after.all (fun e=>!Region.binds .any e)|none=>true
theorem freeL.closed {ops:List Oper} {listed:List Bool} (h:freeL ops listed=true):ClosedL ops.toArray listed.toArray:=by
 simp only [freeL,Bool.and_eq_true,decide_eq_true_eq,List.all_eq_true,List.mem_range] at h;refine ⟨by simpa using h.1,fun j p hp hl e he hb=>?_⟩;rw [List.getElem?_toArray] at hp;have hj:=(List.getElem?_eq_some_iff.1 hp).1;have h2:=h.2 j hj;rw [hp] at h2;have hl':listed.getD j false=true:=by simpa using hl
 rw [hl'] at h2;simp only [Bool.not_true,Bool.false_or] at h2;have:=Array.all_eq_true_iff_forall_mem.1 h2 e he;rw [hb] at this;cases this
theorem wpAny_pre {init t:List Oper} {o:Oper} {full:Array Oper} {a:Act} {w:World} {n:Nat} {lf:Array Bool} (S:World→Prop) (pre:List Nat) (fuel:Nat) (listed:List Bool) (hf:full=(init ++ o :: t).toArray) (hn:n=fuel+(t.length+1)) (hl:lf=(listed ++ List.replicate (t.length+1) false).toArray)
  (hok:lastsOkP pre init (o :: t)=true) (hfr:freeL init listed=true) (hp:pre.all (fun i=>listed.getD i false)=true) (h:wpAnyH P .any init.toArray (tailsQ P (o :: t) Q) S fuel listed.toArray a w):wpAny P .any full Q n lf a w:=by
 subst hf;subst hn;subst hl;exact wpAny_tails t init o S fuel listed hok (freeL.closed hfr) (fun i hi=>by have:=List.all_eq_true.1 hp i hi;simpa using this) h
theorem tailsQ_cons {o:Oper} {t:List Oper} {a a':Act} {w w':World} (h:∀ (K:Act→World→Prop) (Q':Exit→Act→World→Prop),K a' w'→o.wp P a w K Q') (k:tailsQ P t Q .normal a' w'):tailsQ P (o :: t) Q .normal a w:=h _ _ k
theorem tailsQ_nil {a:Act} {w:World} (k:Q .normal a w):tailsQ P [] Q .normal a w:=k
theorem upon_monoQ {o:Oper} {Q Q':Exit→Act→World→Prop} {a:Act} {K K':Act→World→Prop} (hK:∀ a w,K a w→K' a w) (hQ:∀ e a w,Q e a w→Q' e a w) {r:Result Next} (h:o.upon P a K Q r):o.upon P a K' Q' r:=by
 cases r with
 | ok n w' =>
  cases n <;> simp only [Oper.upon] at h ⊢ <;>
   first
    | exact hK _ _ h
    | exact Calls.mono h (fun e w'' he=>by cases e <;> first|exact hK _ _ he|exact hQ _ _ _ he|(obtain ⟨a2,w2,h2⟩:=he;exact ⟨a2,w2,hQ _ _ _ h2⟩))
    | exact Rows.mono h (fun _ _ he=>hK _ _ he)
 | halt x w'=>cases x <;> simp only [Oper.upon] at h ⊢ <;> first|exact hQ _ _ _ h|exact h
theorem wpAnyH_monoQ {md:Region.Mode} {ops:Array Oper} {Q Q':Exit→Act→World→Prop} (hQ:∀ e a w,Q e a w→Q' e a w):∀ (fuel:Nat) (listed:Array Bool) (a:Act) (w:World),wpAnyH P md ops Q S fuel listed a w→wpAnyH P md ops Q' S fuel listed a w
 | 0,_,_,_,h=>⟨h.1,hQ _ _ _ h.2⟩
 | fuel+1,listed,_,_,h=>⟨fun h0=>hQ _ _ _ (h.1 h0),fun i hi=>by
  have k:=h.2 i hi;have hm:∀ a' w',(S w'∧wpAnyH P md ops Q S fuel (listed.setIfInBounds i true) a' w')→(S w'∧wpAnyH P md ops Q' S fuel (listed.setIfInBounds i true) a' w'):=fun a' w' hk=>⟨hk.1,wpAnyH_monoQ hQ fuel _ a' w' hk.2⟩;unfold wpOp at k ⊢;split at k
  ·exact hm _ _ k
  ·split at k
   ·rename_i hw;rw [if_pos hw];exact k.imp (upon_monoQ hm hQ) (fun ⟨h1,a2,w2,h2⟩=>⟨h1,a2,w2,hQ _ _ _ h2⟩)
   ·rename_i hw;rw [if_neg hw]
    exact hm _ _ k⟩
theorem wpAnyH_norm {md:Region.Mode} {ops:Array Oper} {fuel:Nat} {listed:Array Bool} {a:Act} {w:World} (F:Act→Act→World→Prop) (h1:wpAnyH P md ops (fun e a' w'=>e=.normal∧F a a' w') S fuel listed a w) (h2:∀ a' w',F a a' w'→Q .normal a' w'):wpAnyH P md ops Q S fuel listed a w :=
 wpAnyH_monoQ (fun e a' w' ⟨he,h⟩=>by subst he;exact h2 a' w' h) _ _ _ _ h1
end Go
