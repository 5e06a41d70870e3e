import Derived.Deep.RegionHeld
namespace Go
variable {P:Program} {Q:Exit→Act→World→Prop} {S:World→Prop}
def TailQ (P:Program) (o:Oper) (Q:Exit→Act→World→Prop):Exit→Act→World→Prop
 | .normal,a,w=>o.wp P a w (Q .normal) Q
 | e,a,w=>Q e a w
def lastOk (ops:Array Oper) (o:Oper):Bool :=
 o.guard.isNone &&
 (List.range ops.size).all (fun i =>
  (match ops[i]? with
   | some p=>p.after.all (fun e=>!Region.binds .any e || decide (e.on<i)) && (match p.guard with|some (g,_)=>decide (g<ops.size)|none=>true)
   | none=>true) &&
  (o.after.any (fun e=>Region.binds .any e && e.on == i) ||
   (List.range ops.size).any fun j=>decide (i<j) && match ops[j]? with
    | some p=>p.after.any (fun e=>Region.binds .any e && e.on == i)
    | none=>false)) &&
 o.after.all (fun e=>decide (e.on<ops.size))
theorem upon_tail {o p:Oper} {a:Act} {K K':Act→World→Prop} (hK:∀ a w,K a w→K' a w) {r:Result Next} (h:p.upon P a K (TailQ P o Q) r):p.upon P a K' Q r:=by
 cases r with
 | ok n w' =>
  cases n <;> simp only [Oper.upon] at h ⊢ <;>
   first
    | exact hK _ _ h
    | exact Calls.mono h (fun e w'' he=>by cases e <;> first|exact hK _ _ he|exact he)
    | exact Rows.mono h (fun _ _ he=>hK _ _ he)
 | halt x w'=>cases x <;> simp only [Oper.upon] at h ⊢ <;> exact h
section
variable {ops:Array Oper} {o:Oper}
theorem yielded_push {tmps:Array Value} {g:Nat} (h:g<ops.size):yielded (ops.push o) tmps g=yielded ops tmps g:=by
 unfold yielded
 rw [Array.getElem?_push_lt h,← Array.getElem?_eq_getElem h]
theorem wpOp_tail {i:Nat} (hi:i<ops.size) (hg:∀ p g b,ops[i]?=some p→p.guard=some (g,b)→g<ops.size) {a:Act} {w:World} {K K':Act→World→Prop} (hK:∀ a w,K a w→K' a w)
  (h:wpOp P ops (TailQ P o Q) i K a w):wpOp P (ops.push o) Q i K' a w:=by
 unfold wpOp at *
 rw [Array.getElem?_push_lt hi]
 rw [Array.getElem?_eq_getElem hi] at h
 simp only at h ⊢
 have hw:Region.wanted ops[i] (yielded (ops.push o) a.tmps)=Region.wanted ops[i] (yielded ops a.tmps):=by
  unfold Region.wanted
  cases hgd:ops[i].guard with
  | none=>rfl
  | some gb =>
   obtain ⟨g,b⟩:=gb
   simp only [yielded_push (hg _ g b (Array.getElem?_eq_getElem hi) hgd)]
 rw [hw]
 split
 ·rename_i hh
  rw [if_pos hh] at h
  rcases h with h|⟨h1,h2⟩
  ·exact .inl (upon_tail hK h)
  ·exact .inr ⟨h1,h2⟩
 ·rename_i hh
  rw [if_neg hh] at h
  exact hK _ _ h
def ClosedL (ops:Array Oper) (listed:Array Bool):Prop:=listed.size=ops.size∧∀ j p,ops[j]?=some p→listed.getD j false=true→∀ e ∈ p.after,Region.binds .any e=true→listed.getD e.on false=true
structure LastOk (ops:Array Oper) (o:Oper):Prop where
 guard:o.guard=none
 back:∀ (i:Nat) (p:Oper),ops[i]?=some p→(∀ e ∈ p.after,Region.binds .any e=true→e.on<i)∧∀ g b,p.guard=some (g,b)→g<ops.size
 next:∀ i:Nat,i<ops.size→(∃ e ∈ o.after,Region.binds .any e=true∧e.on=i)∨∃ (j:Nat) (p:Oper),i<j∧ops[j]?=some p∧∃ e ∈ p.after,Region.binds .any e=true∧e.on=i
 last:∀ e ∈ o.after,e.on<ops.size
theorem LastOk.of (h:lastOk ops o=true):LastOk ops o:=by
 unfold lastOk at h
 simp only [Bool.and_eq_true,List.all_eq_true,List.mem_range,Option.isNone_iff_eq_none] at h
 obtain ⟨⟨h1,h2⟩,h3⟩:=h
 refine ⟨h1,fun i p hp=>?_,fun i hi=>?_,fun e he=>?_⟩
 ·have hi:i<ops.size:=(Array.getElem?_eq_some_iff.1 hp).1
  have:=(h2 i hi).1
  rw [hp] at this
  simp only [Bool.and_eq_true] at this
  refine ⟨fun e he=>?_,fun g b hg=>?_⟩
  ·intro hb
   have h:=Array.all_eq_true_iff_forall_mem.1 this.1 e he
   simpa [hb] using h
  ·have h:=this.2
   rw [hg] at h
   exact of_decide_eq_true h
 ·have:=(h2 i hi).2
  simp only [Bool.or_eq_true,List.any_eq_true,List.mem_range] at this
  rcases this with h|⟨j,hj,h⟩
  ·obtain ⟨e,he,hb⟩:=Array.any_eq_true'.1 h
   simp only [Bool.and_eq_true,beq_iff_eq] at hb
   exact .inl ⟨e,he,hb.1,hb.2⟩
  ·simp only [Bool.and_eq_true,decide_eq_true_eq] at h
   have hp:ops[j]?=some ops[j]:=Array.getElem?_eq_getElem hj
   have h':=h.2
   rw [hp] at h'
   obtain ⟨e,he,hb⟩:=Array.any_eq_true'.1 h'
   simp only [Bool.and_eq_true,beq_iff_eq] at hb
   exact .inr ⟨j,_,h.1,hp,e,he,hb.1,hb.2⟩
 ·exact of_decide_eq_true (Array.all_eq_true_iff_forall_mem.1 h3 e he)
theorem getD_push {listed:Array Bool} {i:Nat} {b d:Bool} (h:i<listed.size):(listed.push b).getD i d=listed.getD i d:=by
 simp only [Array.getD_eq_getD_getElem?,Array.getElem?_push_lt h,Array.getElem?_eq_getElem h]
theorem getD_lt {listed:Array Bool} {i:Nat} (h:i<listed.size) (d d':Bool):listed.getD i d=listed.getD i d':=by
 simp [Array.getElem?_eq_getElem h]
theorem all_listed (H:LastOk ops o) {listed:Array Bool} (hc:ClosedL ops listed) (hr:Region.ready .any ops listed=[]):∀ i,i<ops.size→listed.getD i true=true:=by
 intro i
 induction i using Nat.strongRecOn with
 | _ i ih =>
  intro hi
  cases e:listed.getD i true with
  | true=>rfl
  | false =>
   have:i ∈ Region.ready .any ops listed:=by
    rw [mem_ready]
    refine ⟨e,ops[i],Array.getElem?_eq_getElem hi,fun d hd hb=>?_⟩
    have hlt:=(H.back i _ (Array.getElem?_eq_getElem hi)).1 d hd hb
    have:=ih d.on hlt (by omega)
    rw [getD_lt (by rw [hc.1];omega) false true];exact this
   rw [hr] at this;cases this
theorem last_ready (H:LastOk ops o) {listed:Array Bool} (hc:ClosedL ops listed) (ha:∀ e ∈ o.after,Region.binds .any e=true→listed.getD e.on false=true):∀ i,i<ops.size→listed.getD i true=true:=by
 have key:∀ k i,i<ops.size→ops.size - i=k→listed.getD i true=true:=by
  intro k
  induction k using Nat.strongRecOn with
  | _ k ih =>
   intro i hi hk
   rw [getD_lt (by rw [hc.1];exact hi) true false]
   rcases H.next i hi with ⟨e,he,hb,rfl⟩|⟨j,p,hj,hp,e,he,hb,rfl⟩
   ·exact ha e he hb
   ·have hjs:j<ops.size:=(Array.getElem?_eq_some_iff.1 hp).1
    have hl:=ih (ops.size - j) (by omega) j hjs rfl
    rw [getD_lt (by rw [hc.1];exact hjs) true false] at hl
    exact hc.2 j p hp hl e he hb
 exact fun i hi=>key _ i hi rfl
theorem ready_push {listed:Array Bool} (hs:listed.size=ops.size) {b:Bool} {i:Nat} (hi:i<ops.size) (hback:∀ p,ops[i]?=some p→∀ e ∈ p.after,Region.binds .any e=true→e.on<i):i ∈ Region.ready .any (ops.push o) (listed.push b)↔i ∈ Region.ready .any ops listed:=by
 rw [mem_ready,mem_ready,Array.getElem?_push_lt hi,← Array.getElem?_eq_getElem hi,getD_push (by omega)]
 constructor
 ·rintro ⟨h0,p,hp,h⟩
  refine ⟨h0,p,hp,fun e he hb=>?_⟩
  have:=h e he hb
  rwa [getD_push (by have:=hback p hp e he hb;omega)] at this
 ·rintro ⟨h0,p,hp,h⟩
  refine ⟨h0,p,hp,fun e he hb=>?_⟩
  rw [getD_push (by have:=hback p hp e he hb;omega)]
  exact h e he hb
theorem lt_of_ready {listed:Array Bool} {i:Nat} (h:i ∈ Region.ready .any ops listed):i<ops.size:=by
 obtain ⟨-,p,hp,-⟩:=mem_ready.1 h
 exact (Array.getElem?_eq_some_iff.1 hp).1
theorem wpAny_last (H:LastOk ops o) {listed:Array Bool} (hs:listed.size=ops.size) (hall:∀ i,i<ops.size→listed.getD i true=true) (fuel:Nat) {a:Act} {w:World} (h:TailQ P o Q .normal a w):wpAny P .any (ops.push o) Q (fuel+1) (listed.push false) a w:=by
 have hn:ops.size ∈ Region.ready .any (ops.push o) (listed.push false):=by
  rw [mem_ready]
  refine ⟨by simp [← hs],o,by simp,fun e he hb=>?_⟩
  have:=H.last e he
  rw [getD_push (by omega),getD_lt (by omega) false true]
  exact hall _ this
 have honly:∀ i ∈ Region.ready .any (ops.push o) (listed.push false),i=ops.size:=by
  intro i hi
  have h1:=lt_of_ready hi
  simp only [Array.size_push] at h1
  rcases Nat.lt_or_ge i ops.size with h2|h2
  ·have h3:=(mem_ready.1 hi).1
   rw [getD_push (by omega),hall i h2] at h3;cases h3
  ·omega
 refine ⟨fun h0=>(by rw [h0] at hn;cases hn),fun i hi=>?_⟩
 have:=honly i hi
 subst this
 unfold wpOp
 rw [Array.getElem?_push_size]
 have hw:Region.wanted o (yielded (ops.push o) a.tmps)=true:=by simp [Region.wanted,H.guard]
 simp only [hw,if_true]
 refine .inl (Oper.wp_mono (fun a w hq=>wpAny_done ?_ hq fuel) h)
 have:∀ i,i ∉ Region.ready .any (ops.push o) ((listed.push false).setIfInBounds ops.size true):=by
  intro i hi
  have h1:=lt_of_ready hi
  simp only [Array.size_push] at h1
  have h3:=(mem_ready.1 hi).1
  by_cases he:i=ops.size
  ·subst he
   simp [← hs] at h3
  ·rw [getD_set_ne true (Ne.symm he),getD_push (by omega),hall i (by omega)] at h3;cases h3
 exact List.eq_nil_iff_forall_not_mem.2 this
theorem ClosedL.set {listed:Array Bool} (hc:ClosedL ops listed) {i:Nat} (hi:i ∈ Region.ready .any ops listed):ClosedL ops (listed.setIfInBounds i true):=by
 refine ⟨by simp [hc.1],fun j p hp hl e he hb=>?_⟩
 obtain ⟨-,q,hq,hall⟩:=mem_ready.1 hi
 by_cases hij:i=j
 ·subst hij
  rw [hp] at hq;cases hq
  exact getD_set_true (hall e he hb)
 ·rw [getD_set_ne false hij] at hl
  exact getD_set_true (hc.2 j p hp hl e he hb)
theorem wpAny_tail (H:LastOk ops o):∀ (fuel:Nat) (listed:Array Bool) (a:Act) (w:World),ClosedL ops listed→wpAnyH P .any ops (TailQ P o Q) S fuel listed a w→wpAny P .any (ops.push o) Q (fuel+1) (listed.push false) a w
 | 0,listed,a,w,hc,h=>wpAny_last H hc.1 (all_listed H hc h.1) 0 h.2
 | fuel+1,listed,a,w,hc,h=>by
  by_cases hr:Region.ready .any ops listed=[]
  ·exact wpAny_last H hc.1 (all_listed H hc hr) _ (h.1 hr)
  ·obtain ⟨k,hk⟩:=List.exists_mem_of_ne_nil _ hr
   have hks:=lt_of_ready hk
   have hk0:=(mem_ready.1 hk).1
   refine ⟨fun h0=>?_,fun i hi=>?_⟩
   ·have:=(ready_push (o:=o) (b:=false) hc.1 hks (fun p hp=>(H.back k p hp).1)).2 hk
    rw [h0] at this;cases this
   ·have h1:=lt_of_ready hi
    simp only [Array.size_push] at h1
    have his:i<ops.size:=by
     rcases Nat.lt_or_ge i ops.size with h2|h2
     ·exact h2
     ·exfalso
      have:i=ops.size:=by omega
      subst this
      obtain ⟨-,p,hp,hall⟩:=mem_ready.1 hi
      rw [Array.getElem?_push_size] at hp
      cases hp
      have:=last_ready H hc (fun e he hb=>by
       have h:=hall e he hb
       rwa [getD_push (by have:=H.last e he;rw [hc.1];exact this)] at h) k hks
      rw [hk0] at this;cases this
    have hi':=(ready_push (o:=o) (b:=false) hc.1 his (fun p hp=>(H.back i p hp).1)).1 hi
    refine wpOp_tail his (fun p g b hp hg=>(H.back i p hp).2 g b hg) (fun a' w' hk'=>?_) (h.2 i hi')
    have:=wpAny_tail H fuel _ a' w' (hc.set hi') hk'.2
    rw [show (listed.push false).setIfInBounds i true=(listed.setIfInBounds i true).push false from ?_]
    ·exact this
    ·have hls:i<listed.size:=by rw [hc.1];exact his
     simp only [Array.setIfInBounds,Array.size_push,hls,dif_pos,Nat.lt_succ_of_lt hls]
     rw [Array.set_push,dif_pos hls]
theorem closed_start:ClosedL ops (Array.replicate ops.size false):=by
 refine ⟨by simp,fun j p hp hl=>?_⟩
 have hj:=(Array.getElem?_eq_some_iff.1 hp).1
 simp [hj] at hl
theorem wp_region_tail {id:Nat} {full:Array Oper} {a:Act} {w:World} (hm:P.follows .mixedOrders=true) (hf:full=ops.push o) (hl:lastOk ops o=true) (hS:S w.drew)
  (h:S w.drew→wpAnyH P .any ops (TailQ P o Q) S ops.size (Array.replicate ops.size false) a w.drew):(Code.region id full true).wp P Q a w:=by
 subst hf
 refine wp_region_any hm ?_
 have:=wpAny_tail (LastOk.of hl) ops.size _ a w.drew closed_start (h hS)
 rw [Array.size_push,Array.replicate_succ]
 exact this
def initL {α:Type}:List α→List α
 | []=>[]
 | [_]=>[]
 | a :: b :: r=>a :: initL (b :: r)
def lastL {α:Type} (d:α):List α→α
 | []=>d
 | a :: r=>lastL a r
theorem initL_last {α:Type}:∀ (d:α) (l:List α),initL (d :: l) ++ [lastL d l]=d :: l
 | _,[]=>rfl
 | _,a :: r=>by
  show _ :: (initL (a :: r) ++ [lastL a r])=_
  rw [initL_last a r]
theorem wp_region_but {id:Nat} {x:Oper} {l:List Oper} {a:Act} {w:World} (S:World→Prop) (hm:P.follows .mixedOrders=true) (hl:lastOk (initL (x :: l)).toArray (lastL x l)=true) (hS:S w.drew)
  (h:S w.drew→wpAnyH P .any (initL (x :: l)).toArray (TailQ P (lastL x l) Q) S (initL (x :: l)).toArray.size (Array.replicate (initL (x :: l)).toArray.size false) a w.drew):(Code.region id (x :: l).toArray true).wp P Q a w :=
 wp_region_tail hm (by rw [List.push_toArray,initL_last]) hl hS h
end
end Go
namespace Go
theorem wpAnyH_letter {P:Program} {md:Region.Mode} {ops:Array Oper} {Q:Exit→Act→World→Prop} {S:World→Prop} {fuel:Nat} {listed:Array Bool} {a:Act} {w:World} (R:World→Prop) (h:R w) (k:∀ w1,R w1→wpAnyH P md ops Q S fuel listed a w1):wpAnyH P md ops Q S fuel listed a w:=k w h
def nthL {α:Type}:List α→Nat→Option α
 | [],_=>none
 | a :: _,0=>some a
 | _ :: l,n+1=>nthL l n
theorem nthL_eq {α:Type}:∀ (l:List α) (i:Nat),nthL l i=l[i]?
 | [],_=>by simp [nthL]
 | _ :: _,0=>by simp [nthL]
 | _ :: l,n+1=>by simp [nthL,nthL_eq l n]
section
variable {P:Program} {Q:Exit→Act→World→Prop} {S:World→Prop} {md:Region.Mode} {l:List Oper}
theorem takeL {i:Nat} {oi:Oper} {v:Value} {fuel:Nat} {listed:Array Bool} {a:Act} {w:World} (hi:nthL l i=some oi)
  (hs:Region.noSelect l.toArray=true) (hf:Region.free md l.toArray listed i=true) (hr:(Region.ready md l.toArray listed).contains i=true)
  (hQ:∀ c a w,Q (.panic c) (a.put oi.dst v) w→Q (.panic c) a w) (hy:YieldsIf P l.toArray S oi v a) (hS:S w)
  (h:wpAnyH P md l.toArray Q S fuel (listed.setIfInBounds i true) (a.put oi.dst v) w):wpAnyH P md l.toArray Q S (fuel+1) listed a w :=
 wpAnyH_take (by rw [List.getElem?_toArray,← nthL_eq];exact hi) hs hf hr hQ hy hS h
theorem takeY {i:Nat} {oi:Oper} {v:Value} {fuel:Nat} {listed:Array Bool} {a:Act} {w:World} (hy:∀ w,S w→(execOp a.eval oi).run P w=.ok (.value v) w) (h:wpAnyH P md l.toArray Q S fuel (listed.setIfInBounds i true) (a.put oi.dst v) w) (hi:nthL l i=some oi := by rfl) (hs:Region.noSelect l.toArray=true := by kernel_rfl) (hf:Region.free md l.toArray listed i=true := by kernel_rfl) (hr:(Region.ready md l.toArray listed).contains i=true := by kernel_rfl) (hQ:∀ c a w,Q (.panic c) (a.put oi.dst v) w→Q (.panic c) a w := by exact fun _ _ _ h => h) (hw:Region.wanted oi (yielded l.toArray a.tmps)=true := by rfl) (hS:S w := by assumption):wpAnyH P md l.toArray Q S (fuel+1) listed a w := takeL hi hs hf hr hQ (Or.inl ⟨hw,hy⟩) hS h
theorem takeN {i:Nat} {oi:Oper} {v:Value} {fuel:Nat} {listed:Array Bool} {a:Act} {w:World} (h:wpAnyH P md l.toArray Q S fuel (listed.setIfInBounds i true) (a.put oi.dst v) w) (hi:nthL l i=some oi := by rfl) (hs:Region.noSelect l.toArray=true := by kernel_rfl) (hf:Region.free md l.toArray listed i=true := by kernel_rfl) (hr:(Region.ready md l.toArray listed).contains i=true := by kernel_rfl) (hQ:∀ c a w,Q (.panic c) (a.put oi.dst v) w→Q (.panic c) a w := by exact fun _ _ _ h => h) (hw:Region.wanted oi (yielded l.toArray a.tmps)=false := by rfl) (hv:v=undef := by rfl) (hS:S w := by assumption):wpAnyH P md l.toArray Q S (fuel+1) listed a w := takeL hi hs hf hr hQ (Or.inr ⟨hw,hv⟩) hS h
theorem consL {fuel:Nat} {listed:Array Bool} {a:Act} {w:World} {i:Nat} {o:Oper} {rs:List Nat} (ho:nthL l i=some o)
  (h:∀ K':Act→World→Prop,Shut (∀ a w,S w→(S w→wpAnyH P md l.toArray Q S fuel (listed.setIfInBounds i true) a w)→K' a w)→if Region.wanted o (yielded l.toArray a.tmps)=true then Oper.wp P o a w K' Q else K' (a.put o.dst undef) w)
  (hs:AllReadyH P md l.toArray Q S fuel listed a w rs):AllReadyH P md l.toArray Q S fuel listed a w (i :: rs) :=
 AllReadyH.cons (by rw [List.getElem?_toArray,← nthL_eq];exact ho) h hs
end
end Go
