import Derived.Test.YtdgleeglndcjhaaGreatDoorProg
import Derived.WalkKit
import Derived.ProofKit
import Derived.Below
import Derived.Tactics
import Derived.Tactics2
import Derived.OwnWalk
import Derived.WalkSpells
import Derived.Laws.MakeOwn
import Derived.Laws.OwnMore
import Derived.Laws.NewBlocks
import Derived.Deep.RegionHeld3
import Derived.Deep.LoopGhost
import Derived.Deep.DeepCutAuto
import Derived.Deep.QuietTactic
import Derived.BigQuiet
import Derived.KernelRfl
import Derived.Lib.Hide
import Derived.IntWalk
set_option linter.unusedVariables false
namespace Go.Proofs.YtdgleeglndcjhaaGreatDoor
open Go.RowKit
theorem qqqT {α : Type _} (l : List α) (i : Nat) (a : α) : l.toArray.setIfInBounds i a = (l.set i a).toArray := List.setIfInBounds_toArray l i a
theorem qqq0 {α : Type _} {x : α} {xs : List α} {a : α} : (x :: xs).set 0 a = a :: xs := rfl
theorem qqq1 {α : Type _} {x : α} {xs : List α} {i : Nat} {a : α} : (x :: xs).set (i + 1) a = x :: xs.set i a := rfl
theorem qqq2 {α : Type _} {a : α} {l : List α} : (a :: l)[0]? = some a := rfl
theorem qqq3 {α : Type _} {a : α} {i : Nat} {l : List α} : (a :: l)[i + 1]? = l[i]? := rfl
def SlC (w:World) (v:Value) (sz n:Nat) (cs:List Value):Prop :=
 ∃ A c,v=.slice A n c∧n≤c∧cs.length=n * sz∧(0<cs.length→∃ b o,A=some ⟨b,o,none⟩∧∀ j x,cs[j]?=some x→w.cell? ⟨b,o+j,none⟩=some x)
theorem SlC.below {w w':World} {v:Value} {sz n:Nat} {cs:List Value} {B:Nat} (h:SlC w v sz n cs) (hb:Below B w w') (hB:w.heap.size≤B):SlC w' v sz n cs:=by
 obtain ⟨A,c,h1,h2,h3,h4⟩:=h
 refine ⟨A,c,h1,h2,h3,fun hp=>?_⟩
 obtain ⟨b,o,h5,h6⟩:=h4 hp
 exact ⟨b,o,h5,fun j x hx=>(hb.cell (Nat.lt_of_lt_of_le (World.block_lt_of_cell? w _ (h6 j x hx)) hB)).trans (h6 j x hx)⟩
theorem SlC.nil (w:World) (sz:Nat) (c:Nat) (A:Option Addr):SlC w (.slice A 0 c) sz 0 []:=⟨A,c,rfl,Nat.zero_le _,by simp,fun h=>by simp at h⟩
theorem SlC.own {w:World} {base:Nat} {e:TypeId} {sz n:Nat} {v:Value} {xs:List Value} (h:w.ownsRow base e sz v n xs):SlC w v sz n xs:=by
 have hl:=h.1
 rcases h.2 with ⟨rfl,rfl⟩|⟨g,cap,cur,rfl,hb,hh,hc,_⟩
 ·have:xs=[]:=List.eq_nil_of_length_eq_zero (by simpa using hl)
  subst this
  exact SlC.nil w sz 0 none
 ·refine ⟨_,cap,rfl,hc,hl,fun _=>⟨g,0,rfl,fun j x hx=>?_⟩⟩
  have:=h.cells (g:=g) rfl j x hx
  have he:(⟨g,0,none⟩:Addr).add j=⟨g,0+j,none⟩:=by unfold Addr.add;split <;> simp_all
  rw [← he];exact this
theorem SlC.take {w:World} {A:Option Addr} {sz n c:Nat} {cs:List Value} (h:SlC w (.slice A n c) sz n cs) (k:Nat) (hk:k≤n):SlC w (.slice A k c) sz k (cs.take (k * sz)):=by
 obtain ⟨A',c',h1,h2,h3,h4⟩:=h
 obtain ⟨rfl,_,rfl⟩:=Value.slice.inj h1
 have hm:k * sz≤n * sz:=Nat.mul_le_mul_right sz hk
 refine ⟨A,c,rfl,by omega,by rw [List.length_take];omega,fun hp=>?_⟩
 obtain ⟨b,o,h5,h6⟩:=h4 (by rw [List.length_take] at hp;omega)
 refine ⟨b,o,h5,fun j x hx=>h6 j x ?_⟩
 rw [List.getElem?_take] at hx
 split at hx <;> simp_all
theorem wp_letter {P:Program} {c:Code} {Q:Exit→Act→World→Prop} {a:Act} {w:World} (R:World→Prop) (h:R w) (k:∀ w1,R w1→c.wp P Q a w1):c.wp P Q a w:=k w h
theorem bcell {B:Nat} {W w1:World} (hb:Below B W w1):(∀ b o,b<B→w1.cell? ⟨b,o,none⟩=W.cell? ⟨b,o,none⟩)∧(∀ b o,b<B→w1.frozen? ⟨b,o,none⟩=W.frozen? ⟨b,o,none⟩) :=
 ⟨fun b o h=>hb.cell (p:=⟨b,o,none⟩) h,fun b o h=>hb.frozen (p:=⟨b,o,none⟩) h⟩
theorem below_after {B:Nat} {w a b:World} (h:Below B w a) (hB:B≤w.heap.size) (k:Below a.heap.size a b):Below B w b:=h.trans (k.mono (Nat.le_trans hB h.size))
theorem run_field24 (v:Value) (w:World):(Instr.field 24 (.agg #[v]) 0).run Tryz.prog w=.ok v w:=by
 simp [Instr.field,asAgg,go_sem]
theorem run_field37_0 (s v u:Value) (w:World):(Instr.field 37 (.agg #[s,v,u]) 0).run Tryz.prog w=.ok (.agg #[s,v]) w:=by
 simp [Instr.field,asAgg,go_sem]
attribute [go_sem] run_field24 run_field37_0
theorem quiet_eq {P:Program} {f:FuncId} {args:Array Value} {w:World} {n:Nat} {v:Value}
  (h:Calls P f args (w.drewN n) fun e w'=>e=.returned v∧w.drewN n=w'):Calls P f args (w.drewN n) fun e w''=>e=.returned v∧∃ m,w''=w.drewN m :=
 h.mono fun _ _ ⟨he,hm⟩=>⟨he,n,hm.symm⟩
theorem below_drewN {B:Nat} {a w:World} (h:Below B a w) (n:Nat):Below B a (w.drewN n):=⟨h.os,h.tape,h.output,h.size,h.block⟩
theorem below_on {N:Nat} {w1 a b:World} (h:Below N w1 a) (hN:N≤w1.heap.size) (k:Below a.heap.size a b):Below N w1 b:=h.trans (k.mono (Nat.le_trans hN h.size))
theorem below_set {N:Nat} {w1 a:World} (h:Below N w1 a) (b o:Nat) (hb:N≤b) (u:Value):Below N w1 (a.setCell ⟨b,o,none⟩ u):=h.setCell hb u
def Blk (w:World) (g:Nat) (t:TypeId) (l:List Value):Prop:=w.heap[g]?=some (.cells l.toArray t (0,0))
theorem qh {p:Prop} (h:p):Hid p := h
theorem ql {n:Nat}:n≤n := Nat.le_refl n
theorem Blk.lt {w:World} {g:Nat} {t:TypeId} {l:List Value} (h:Blk w g t l):g<w.heap.size:=(Array.getElem?_eq_some_iff.1 h).1
theorem Blk.cell {w:World} {g:Nat} {t:TypeId} {l:List Value} (h:Blk w g t l) (i:Nat):w.cell? ⟨g,i,none⟩=l[i]?:=by
 unfold Blk at h
 simp [World.cell?,h]
theorem Blk.frozen {w:World} {g:Nat} {t:TypeId} {l:List Value} (h:Blk w g t l) (i:Nat):w.frozen? ⟨g,i,none⟩=false:=by
 unfold Blk at h
 simp [World.frozen?,h]
theorem Blk.c1 {w:World} {g:Nat} {t:TypeId} {a0:Value} {l:List Value} (h:Blk w g t (a0::l)):w.cell? ⟨g,0,none⟩=some a0 := h.cell 0
theorem Blk.cf1 {w:World} {g:Nat} {t:TypeId} {a0:Value} {l:List Value} (h:Blk w g t (a0::l)):w.cell? ⟨g,0,none⟩=some a0∧w.frozen? ⟨g,0,none⟩=false := ⟨h.cell 0,h.frozen 0⟩
theorem Blk.c2 {w:World} {g:Nat} {t:TypeId} {a0 a1:Value} {l:List Value} (h:Blk w g t (a0::a1::l)):w.cell? ⟨g,0,none⟩=some a0∧w.cell? ⟨g,1,none⟩=some a1 := ⟨h.cell 0,h.cell 1⟩
theorem Blk.cf2 {w:World} {g:Nat} {t:TypeId} {a0 a1:Value} {l:List Value} (h:Blk w g t (a0::a1::l)):w.cell? ⟨g,0,none⟩=some a0∧w.cell? ⟨g,1,none⟩=some a1∧w.frozen? ⟨g,0,none⟩=false∧w.frozen? ⟨g,1,none⟩=false := ⟨h.cell 0,h.cell 1,h.frozen 0,h.frozen 1⟩
theorem Blk.c3 {w:World} {g:Nat} {t:TypeId} {a0 a1 a2:Value} {l:List Value} (h:Blk w g t (a0::a1::a2::l)):w.cell? ⟨g,0,none⟩=some a0∧w.cell? ⟨g,1,none⟩=some a1∧w.cell? ⟨g,2,none⟩=some a2 := ⟨h.cell 0,h.cell 1,h.cell 2⟩
theorem Blk.cf3 {w:World} {g:Nat} {t:TypeId} {a0 a1 a2:Value} {l:List Value} (h:Blk w g t (a0::a1::a2::l)):w.cell? ⟨g,0,none⟩=some a0∧w.cell? ⟨g,1,none⟩=some a1∧w.cell? ⟨g,2,none⟩=some a2∧w.frozen? ⟨g,0,none⟩=false∧w.frozen? ⟨g,1,none⟩=false∧w.frozen? ⟨g,2,none⟩=false := ⟨h.cell 0,h.cell 1,h.cell 2,h.frozen 0,h.frozen 1,h.frozen 2⟩
theorem Blk.c4 {w:World} {g:Nat} {t:TypeId} {a0 a1 a2 a3:Value} {l:List Value} (h:Blk w g t (a0::a1::a2::a3::l)):w.cell? ⟨g,0,none⟩=some a0∧w.cell? ⟨g,1,none⟩=some a1∧w.cell? ⟨g,2,none⟩=some a2∧w.cell? ⟨g,3,none⟩=some a3 := ⟨h.cell 0,h.cell 1,h.cell 2,h.cell 3⟩
theorem Blk.cf4 {w:World} {g:Nat} {t:TypeId} {a0 a1 a2 a3:Value} {l:List Value} (h:Blk w g t (a0::a1::a2::a3::l)):w.cell? ⟨g,0,none⟩=some a0∧w.cell? ⟨g,1,none⟩=some a1∧w.cell? ⟨g,2,none⟩=some a2∧w.cell? ⟨g,3,none⟩=some a3∧w.frozen? ⟨g,0,none⟩=false∧w.frozen? ⟨g,1,none⟩=false∧w.frozen? ⟨g,2,none⟩=false∧w.frozen? ⟨g,3,none⟩=false := ⟨h.cell 0,h.cell 1,h.cell 2,h.cell 3,h.frozen 0,h.frozen 1,h.frozen 2,h.frozen 3⟩
theorem Blk.c5 {w:World} {g:Nat} {t:TypeId} {a0 a1 a2 a3 a4:Value} {l:List Value} (h:Blk w g t (a0::a1::a2::a3::a4::l)):w.cell? ⟨g,0,none⟩=some a0∧w.cell? ⟨g,1,none⟩=some a1∧w.cell? ⟨g,2,none⟩=some a2∧w.cell? ⟨g,3,none⟩=some a3∧w.cell? ⟨g,4,none⟩=some a4 := ⟨h.cell 0,h.cell 1,h.cell 2,h.cell 3,h.cell 4⟩
theorem Blk.cf5 {w:World} {g:Nat} {t:TypeId} {a0 a1 a2 a3 a4:Value} {l:List Value} (h:Blk w g t (a0::a1::a2::a3::a4::l)):w.cell? ⟨g,0,none⟩=some a0∧w.cell? ⟨g,1,none⟩=some a1∧w.cell? ⟨g,2,none⟩=some a2∧w.cell? ⟨g,3,none⟩=some a3∧w.cell? ⟨g,4,none⟩=some a4∧w.frozen? ⟨g,0,none⟩=false∧w.frozen? ⟨g,1,none⟩=false∧w.frozen? ⟨g,2,none⟩=false∧w.frozen? ⟨g,3,none⟩=false∧w.frozen? ⟨g,4,none⟩=false := ⟨h.cell 0,h.cell 1,h.cell 2,h.cell 3,h.cell 4,h.frozen 0,h.frozen 1,h.frozen 2,h.frozen 3,h.frozen 4⟩
theorem Blk.c6 {w:World} {g:Nat} {t:TypeId} {a0 a1 a2 a3 a4 a5:Value} {l:List Value} (h:Blk w g t (a0::a1::a2::a3::a4::a5::l)):w.cell? ⟨g,0,none⟩=some a0∧w.cell? ⟨g,1,none⟩=some a1∧w.cell? ⟨g,2,none⟩=some a2∧w.cell? ⟨g,3,none⟩=some a3∧w.cell? ⟨g,4,none⟩=some a4∧w.cell? ⟨g,5,none⟩=some a5 := ⟨h.cell 0,h.cell 1,h.cell 2,h.cell 3,h.cell 4,h.cell 5⟩
theorem Blk.cf6 {w:World} {g:Nat} {t:TypeId} {a0 a1 a2 a3 a4 a5:Value} {l:List Value} (h:Blk w g t (a0::a1::a2::a3::a4::a5::l)):w.cell? ⟨g,0,none⟩=some a0∧w.cell? ⟨g,1,none⟩=some a1∧w.cell? ⟨g,2,none⟩=some a2∧w.cell? ⟨g,3,none⟩=some a3∧w.cell? ⟨g,4,none⟩=some a4∧w.cell? ⟨g,5,none⟩=some a5∧w.frozen? ⟨g,0,none⟩=false∧w.frozen? ⟨g,1,none⟩=false∧w.frozen? ⟨g,2,none⟩=false∧w.frozen? ⟨g,3,none⟩=false∧w.frozen? ⟨g,4,none⟩=false∧w.frozen? ⟨g,5,none⟩=false := ⟨h.cell 0,h.cell 1,h.cell 2,h.cell 3,h.cell 4,h.cell 5,h.frozen 0,h.frozen 1,h.frozen 2,h.frozen 3,h.frozen 4,h.frozen 5⟩
theorem Blk.c7 {w:World} {g:Nat} {t:TypeId} {a0 a1 a2 a3 a4 a5 a6:Value} {l:List Value} (h:Blk w g t (a0::a1::a2::a3::a4::a5::a6::l)):w.cell? ⟨g,0,none⟩=some a0∧w.cell? ⟨g,1,none⟩=some a1∧w.cell? ⟨g,2,none⟩=some a2∧w.cell? ⟨g,3,none⟩=some a3∧w.cell? ⟨g,4,none⟩=some a4∧w.cell? ⟨g,5,none⟩=some a5∧w.cell? ⟨g,6,none⟩=some a6 := ⟨h.cell 0,h.cell 1,h.cell 2,h.cell 3,h.cell 4,h.cell 5,h.cell 6⟩
theorem Blk.cf7 {w:World} {g:Nat} {t:TypeId} {a0 a1 a2 a3 a4 a5 a6:Value} {l:List Value} (h:Blk w g t (a0::a1::a2::a3::a4::a5::a6::l)):w.cell? ⟨g,0,none⟩=some a0∧w.cell? ⟨g,1,none⟩=some a1∧w.cell? ⟨g,2,none⟩=some a2∧w.cell? ⟨g,3,none⟩=some a3∧w.cell? ⟨g,4,none⟩=some a4∧w.cell? ⟨g,5,none⟩=some a5∧w.cell? ⟨g,6,none⟩=some a6∧w.frozen? ⟨g,0,none⟩=false∧w.frozen? ⟨g,1,none⟩=false∧w.frozen? ⟨g,2,none⟩=false∧w.frozen? ⟨g,3,none⟩=false∧w.frozen? ⟨g,4,none⟩=false∧w.frozen? ⟨g,5,none⟩=false∧w.frozen? ⟨g,6,none⟩=false := ⟨h.cell 0,h.cell 1,h.cell 2,h.cell 3,h.cell 4,h.cell 5,h.cell 6,h.frozen 0,h.frozen 1,h.frozen 2,h.frozen 3,h.frozen 4,h.frozen 5,h.frozen 6⟩
theorem Blk.c8 {w:World} {g:Nat} {t:TypeId} {a0 a1 a2 a3 a4 a5 a6 a7:Value} {l:List Value} (h:Blk w g t (a0::a1::a2::a3::a4::a5::a6::a7::l)):w.cell? ⟨g,0,none⟩=some a0∧w.cell? ⟨g,1,none⟩=some a1∧w.cell? ⟨g,2,none⟩=some a2∧w.cell? ⟨g,3,none⟩=some a3∧w.cell? ⟨g,4,none⟩=some a4∧w.cell? ⟨g,5,none⟩=some a5∧w.cell? ⟨g,6,none⟩=some a6∧w.cell? ⟨g,7,none⟩=some a7 := ⟨h.cell 0,h.cell 1,h.cell 2,h.cell 3,h.cell 4,h.cell 5,h.cell 6,h.cell 7⟩
theorem Blk.cf8 {w:World} {g:Nat} {t:TypeId} {a0 a1 a2 a3 a4 a5 a6 a7:Value} {l:List Value} (h:Blk w g t (a0::a1::a2::a3::a4::a5::a6::a7::l)):w.cell? ⟨g,0,none⟩=some a0∧w.cell? ⟨g,1,none⟩=some a1∧w.cell? ⟨g,2,none⟩=some a2∧w.cell? ⟨g,3,none⟩=some a3∧w.cell? ⟨g,4,none⟩=some a4∧w.cell? ⟨g,5,none⟩=some a5∧w.cell? ⟨g,6,none⟩=some a6∧w.cell? ⟨g,7,none⟩=some a7∧w.frozen? ⟨g,0,none⟩=false∧w.frozen? ⟨g,1,none⟩=false∧w.frozen? ⟨g,2,none⟩=false∧w.frozen? ⟨g,3,none⟩=false∧w.frozen? ⟨g,4,none⟩=false∧w.frozen? ⟨g,5,none⟩=false∧w.frozen? ⟨g,6,none⟩=false∧w.frozen? ⟨g,7,none⟩=false := ⟨h.cell 0,h.cell 1,h.cell 2,h.cell 3,h.cell 4,h.cell 5,h.cell 6,h.cell 7,h.frozen 0,h.frozen 1,h.frozen 2,h.frozen 3,h.frozen 4,h.frozen 5,h.frozen 6,h.frozen 7⟩
theorem Blk.put {w:World} {g:Nat} {t:TypeId} {l:List Value} (h:Blk w g t l) (i:Nat) (u:Value):Blk (w.setCell ⟨g,i,none⟩ u) g t (l.set i u):=by
 unfold Blk at *
 simp [World.setCell,Array.getElem?_modify,h]
theorem Blk.below {w w':World} {g B:Nat} {t:TypeId} {l:List Value} (h:Blk w g t l) (hb:Below B w w') (hB:g<B):Blk w' g t l:=by
 unfold Blk at *
 rw [hb.block g hB];exact h
theorem Blk.alloc {w:World} {g:Nat} {t:TypeId} {l:List Value} (h:Blk w g t l) (o:Obj):Blk (w.alloc o) g t l:=by
 have:=h.lt
 unfold Blk at *
 rw [Below.heap_alloc _ _ _ this];exact h
theorem Blk.new (w:World) (t:TypeId) (l:List Value):Blk (w.alloc (.cells l.toArray t (0,0))) w.heap.size t l:=by
 show (w.heap.push _)[w.heap.size]?=_
 simp
theorem Blk.made (w:World) (t:TypeId) (l:List Value) (g:Nat) (c:Array Value) (hg:g=w.heap.size) (hc:c=l.toArray):Blk (w.alloc (.cells c t (0,0))) g t l:=by
 subst hg;subst hc;exact Blk.new w t l
theorem madeCells_one (z:Value) (n:Nat):madeCells #[z] n=(List.replicate n z).toArray:=by
 rw [← toList_madeCells_one]
theorem wpList_make_blk {P:Program} (w:World) {ops:Array Oper} {rest:List Oper} {o:Oper} {a:Act} {Q:Exit→Act→World→Prop}
  (hg:o.guard=none) (l c:Operand) (t:TypeId) (hop:o.op=Op.makeSlice t l c)
  (e:TypeId) (i:TypeInfo) (z:Value) (h1:P.underlying t=some (.slice e)) (h2:P.info? e=some i) (h3:i.zero=some z) (h4:i.size=1) (hz:z.cells=#[z])
  (kl kc:IntKind) (L C:Int) (n:Nat) (hl:a.eval l=.int kl L) (hc:a.eval c=.int kc C) (hL:L=(n:Int)) (hC:C=(n:Int)) (b2:i.bytes * n≤281474976710656) (b3:n≤maxLen)
  (hK:wpList P ops Q rest (a.put o.dst (.slice (some ⟨w.heap.size,0,none⟩) n n)) (w.alloc (.cells (List.replicate n z).toArray e))) :
  wpList P ops Q (o :: rest) a w:=by
 refine wpList_plain hg fun K hK'=>?_
 have h63':(n:Int)≤9223372036854775807:=by
  have h:=b3
  simp [maxLen] at h
  omega
 have hb':(i.bytes:Int) * (n:Int)≤281474976710656:=by
  have h:((i.bytes * n:Nat):Int)≤281474976710656:=by omega
  rwa [Int.natCast_mul] at h
 have hr:=run_make (P:=P) w t e i z h1 h2 h3 kl kc n n (by omega) (Int.le_refl _) hb' h63'
 simp only [Int.toNat_natCast,h4,Nat.mul_one,hz,madeCells_one] at hr
 subst hL
 subst hC
 unfold Oper.wp
 simp [execOp,hop,hl,hc,hr,Result.andThen]
 exact hK' _ _ hK
theorem Tryz_info43:(Tryz.prog.info? 43).map (fun i=>(i.zero,i.size,i.bytes))=some (some (.int .u32 0),1,4):=by kernel_rfl
theorem Tryz_info3:(Tryz.prog.info? 3).map (fun i=>(i.zero,i.size,i.bytes))=some (some (.int .i64 0),1,8):=by kernel_rfl
theorem Blk.slc {w:World} {g:Nat} {t:TypeId} {l:List Value} (h:Blk w g t l) (n c:Nat) (hn:n≤l.length) (hc:n≤c):SlC w (.slice (some ⟨g,0,none⟩) n c) 1 n (l.take n):=by
 refine ⟨_,c,rfl,hc,by simp;omega,fun _=>⟨g,0,rfl,fun j x hx=>?_⟩⟩
 rw [Nat.zero_add,h.cell j]
 rw [List.getElem?_take] at hx
 split at hx <;> simp_all
end Go.Proofs.YtdgleeglndcjhaaGreatDoor
namespace Go.Proofs.YtdgleeglndcjhaaGreatDoor
def val:List Nat→Nat
 | []=>0
 | x :: l=>x+4294967296 * val l
def Wd (l:List Nat):Prop:=∀ x ∈ l,x<4294967296
def wordsOf (n:Nat):List Nat:=if h:n=0 then [] else n % 4294967296 :: wordsOf (n / 4294967296)
termination_by n
decreasing_by omega
theorem wordsOf_zero:wordsOf 0=[]:=by rw [wordsOf];simp
theorem wordsOf_pos {n:Nat} (h:n≠0):wordsOf n=n % 4294967296 :: wordsOf (n / 4294967296):=by rw [wordsOf];simp [h]
theorem val_wordsOf (n:Nat):val (wordsOf n)=n:=by
 induction n using Nat.strongRecOn with
 | ind n ih =>
  by_cases h:n=0
  ·subst h;rw [wordsOf_zero];rfl
  ·rw [wordsOf_pos h,val,ih _ (by omega)];omega
theorem wd_wordsOf (n:Nat):Wd (wordsOf n):=by
 induction n using Nat.strongRecOn with
 | ind n ih =>
  by_cases h:n=0
  ·subst h;rw [wordsOf_zero];intro x hx;simp at hx
  ·rw [wordsOf_pos h];intro x hx
   rcases List.mem_cons.1 hx with rfl|hx
   ·omega
   ·exact ih _ (by omega) x hx
theorem wordsOf_eq_nil {n:Nat}:wordsOf n=[]↔n=0:=by
 constructor
 ·intro h;have:=val_wordsOf n;rw [h] at this;exact this.symm
 ·rintro rfl;exact wordsOf_zero
def trimL:List Nat→List Nat
 | []=>[]
 | x :: l=>if trimL l=[] then if x=0 then [] else [x] else x :: trimL l
theorem trimL_snoc0 (l:List Nat):trimL (l ++ [0])=trimL l:=by
 induction l with
 | nil=>simp [trimL]
 | cons x l ih=>simp [trimL,ih]
theorem trimL_snoc (l:List Nat) (x:Nat) (h:x≠0):trimL (l ++ [x])=l ++ [x]:=by
 induction l with
 | nil=>simp [trimL,h]
 | cons y l ih=>simp [trimL,ih]
theorem Wd.cons {x:Nat} {l:List Nat} (h:Wd (x :: l)):x<4294967296∧Wd l:=⟨h x (by simp),fun y hy=>h y (by simp [hy])⟩
theorem Wd.take {l:List Nat} (h:Wd l) (k:Nat):Wd (l.take k):=fun x hx=>h x (List.mem_of_mem_take hx)
theorem Wd.drop {l:List Nat} (h:Wd l) (k:Nat):Wd (l.drop k):=fun x hx=>h x (List.mem_of_mem_drop hx)
theorem Wd.append {l m:List Nat} (h:Wd l) (k:Wd m):Wd (l ++ m):=fun x hx=>(List.mem_append.1 hx).elim (h x) (k x)
theorem Wd.one {x:Nat} (h:x<4294967296):Wd [x]:=fun y hy=>by simp at hy;omega
theorem Wd.nil:Wd []:=fun y hy=>by simp at hy
theorem Wd.rep (n:Nat):Wd (List.replicate n 0):=fun y hy=>by have:=(List.mem_replicate.1 hy).2;omega
theorem Wd.getD {l:List Nat} (h:Wd l) (k:Nat):l.getD k 0<4294967296:=by
 by_cases hk:k<l.length
 ·rw [List.getD_eq_getElem?_getD,List.getElem?_eq_getElem hk];exact h _ (List.getElem_mem hk)
 ·rw [List.getD_eq_getElem?_getD,List.getElem?_eq_none (by omega)];simp
theorem trimL_val (l:List Nat) (h:Wd l):trimL l=wordsOf (val l):=by
 induction l with
 | nil=>rw [trimL,val,wordsOf_zero]
 | cons x l ih =>
  have ⟨hx,hl⟩:=h.cons
  rw [trimL,val,ih hl]
  by_cases hv:val l=0
  ·rw [hv,wordsOf_zero,if_pos rfl]
   by_cases h0:x=0
   ·subst h0;simp [wordsOf_zero]
   ·rw [if_neg h0,wordsOf_pos (by omega),show (x+4294967296 * 0) / 4294967296=0 by omega,wordsOf_zero,show (x+4294967296 * 0) % 4294967296=x by omega]
  ·rw [if_neg (by rw [wordsOf_eq_nil];exact hv),wordsOf_pos (n:=x+4294967296 * val l) (by omega),show (x+4294967296 * val l) / 4294967296=val l by omega,show (x+4294967296 * val l) % 4294967296=x by omega]
theorem val_append (l m:List Nat):val (l ++ m)=val l+4294967296 ^ l.length * val m:=by
 induction l with
 | nil=>simp [val]
 | cons x l ih=>simp only [List.cons_append,val,ih,List.length_cons,Nat.pow_succ];rw [Nat.mul_add,Nat.mul_comm (4294967296 ^ l.length) 4294967296,Nat.mul_assoc];omega
theorem val_snoc (l:List Nat) (x:Nat):val (l ++ [x])=val l+4294967296 ^ l.length * x:=by rw [val_append];simp [val]
theorem val_rep (n:Nat):val (List.replicate n 0)=0:=by
 induction n with
 | zero=>rfl
 | succ n ih=>rw [List.replicate_succ,val,ih]
theorem val_lt (l:List Nat) (h:Wd l):val l<4294967296 ^ l.length:=by
 induction l with
 | nil=>simp [val]
 | cons x l ih =>
  have ⟨hx,hl⟩:=h.cons
  have:=ih hl
  simp only [val,List.length_cons,Nat.pow_succ]
  omega
theorem take_succ_getD (l:List Nat) (i:Nat) (h:i<l.length):l.take (i+1)=l.take i ++ [l.getD i 0]:=by
 rw [List.take_succ_eq_append_getElem h];simp [List.getD_eq_getElem?_getD,List.getElem?_eq_getElem h]
theorem val_take_succ (l:List Nat) (i:Nat):val (l.take (i+1))=val (l.take i)+4294967296 ^ i * l.getD i 0:=by
 by_cases h:i<l.length
 ·rw [take_succ_getD l i h,val_snoc,List.length_take,Nat.min_eq_left (by omega)]
 ·rw [List.take_of_length_le (by omega),List.take_of_length_le (by omega),List.getD_eq_getElem?_getD,List.getElem?_eq_none (by omega)];simp
theorem length_wordsOf (n k:Nat):(wordsOf n).length≤k↔n<4294967296 ^ k:=by
 induction k generalizing n with
 | zero =>
  rw [Nat.pow_zero,Nat.le_zero,List.length_eq_zero_iff,wordsOf_eq_nil];omega
 | succ k ih =>
  by_cases h:n=0
  ·subst h;rw [wordsOf_zero];simp;exact Nat.pow_pos (by omega)
  ·rw [wordsOf_pos h,List.length_cons,Nat.add_le_add_iff_right,ih,Nat.pow_succ,Nat.div_lt_iff_lt_mul (by omega)]
theorem length_lt (n k:Nat):k<(wordsOf n).length↔4294967296 ^ k≤n:=by
 have:=length_wordsOf n k
 omega
theorem getD_wordsOf (n i:Nat):(wordsOf n).getD i 0=n / 4294967296 ^ i % 4294967296:=by
 induction i generalizing n with
 | zero =>
  by_cases h:n=0
  ·subst h;rw [wordsOf_zero];rfl
  ·rw [wordsOf_pos h];simp
 | succ i ih =>
  by_cases h:n=0
  ·subst h;rw [wordsOf_zero];simp
  ·rw [wordsOf_pos h,List.getD_cons_succ,ih,Nat.pow_succ',Nat.div_div_eq_div_mul]
theorem wordsOf_of_last {l:List Nat} (h:Wd l) (hl:l=[]∨l.getD (l.length - 1) 0≠0):wordsOf (val l)=l:=by
 rcases hl with rfl|hl
 ·simp [val,wordsOf_zero]
 ·have hp:0<l.length:=by
   rcases l with _|⟨x,l⟩
   ·simp at hl
   ·simp
  rw [← trimL_val l h]
  have:=take_succ_getD l (l.length - 1) (by omega)
  rw [Nat.sub_add_cancel hp,List.take_length] at this
  rw [this,trimL_snoc _ _ hl,← this]
theorem wordsOf_last {n:Nat} (h:n≠0):(wordsOf n).getD ((wordsOf n).length - 1) 0≠0:=by
 have hp:0<(wordsOf n).length:=by
  rcases hw:wordsOf n with _|⟨x,l⟩
  ·exact absurd (wordsOf_eq_nil.1 hw) h
  ·simp
 have h1:=(length_lt n ((wordsOf n).length - 1)).1 (by omega)
 have h2:=(length_wordsOf n (wordsOf n).length).1 (Nat.le_refl _)
 rw [getD_wordsOf]
 have h3:n / 4294967296 ^ ((wordsOf n).length - 1)<4294967296:=by
  rw [Nat.div_lt_iff_lt_mul (Nat.pow_pos (by omega)),← Nat.pow_succ',show ((wordsOf n).length - 1).succ=(wordsOf n).length by omega]
  exact h2
 have h4:0<n / 4294967296 ^ ((wordsOf n).length - 1):=Nat.div_pos h1 (Nat.pow_pos (by omega))
 rw [Nat.mod_eq_of_lt h3];omega
theorem add_round {done a b:List Nat} {c k:Nat} (hk:done.length=k) (h:val done+c * 4294967296 ^ k=val (a.take k)+val (b.take k)) :
  val (done ++ [(c+(a.getD k 0+b.getD k 0)) % 4294967296])+(c+(a.getD k 0+b.getD k 0)) / 4294967296 * 4294967296 ^ (k+1)=val (a.take (k+1))+val (b.take (k+1)):=by
 rw [val_snoc,hk,val_take_succ,val_take_succ,Nat.pow_succ]
 generalize a.getD k 0=x
 generalize b.getD k 0=y
 have h1:4294967296 ^ k * ((c+(x+y)) % 4294967296)+(c+(x+y)) / 4294967296 * (4294967296 ^ k * 4294967296)=4294967296 ^ k * (c+(x+y)):=by
  rw [Nat.mul_comm ((c+(x+y)) / 4294967296),Nat.mul_assoc,← Nat.mul_add,Nat.add_comm ((c+(x+y)) % 4294967296),Nat.div_add_mod]
 rw [Nat.mul_add,Nat.mul_add] at h1
 rw [Nat.mul_comm c] at h
 omega
theorem add_end {done a b:List Nat} {c n:Nat} (hk:done.length=n+1) (hd:Wd done) (ha:Wd a) (hb:Wd b) (hna:a.length≤n) (hnb:b.length≤n)
  (h:val done+c * 4294967296 ^ (n+1)=val (a.take (n+1))+val (b.take (n+1))):val done=val a+val b:=by
 rw [List.take_of_length_le (by omega),List.take_of_length_le (by omega)] at h
 have h1:=Nat.lt_of_lt_of_le (val_lt a ha) (Nat.pow_le_pow_right (show 0<4294967296 by omega) hna)
 have h2:=Nat.lt_of_lt_of_le (val_lt b hb) (Nat.pow_le_pow_right (show 0<4294967296 by omega) hnb)
 rw [Nat.pow_succ] at h
 have h3:c=0:=by
  rcases Nat.eq_zero_or_pos c with h3|h3
  ·exact h3
  ·have:4294967296 ^ n * 4294967296≤c * (4294967296 ^ n * 4294967296):=Nat.le_mul_of_pos_left _ h3
   omega
 subst h3;omega
theorem sub_round {done a b:List Nat} {q k x r:Nat} (hk:done.length=k) (h:val done+val (b.take k)=val (a.take k)+q * 4294967296 ^ k)
  (hx:x+b.getD k 0+q=a.getD k 0+r * 4294967296) :
  val (done ++ [x])+val (b.take (k+1))=val (a.take (k+1))+r * 4294967296 ^ (k+1):=by
 rw [val_snoc,hk,val_take_succ,val_take_succ,Nat.pow_succ]
 generalize a.getD k 0=s at *
 generalize b.getD k 0=t at *
 have h1:4294967296 ^ k * (x+t+q)=4294967296 ^ k * (s+r * 4294967296):=by rw [hx]
 rw [Nat.mul_add,Nat.mul_add,Nat.mul_add] at h1
 rw [show r * (4294967296 ^ k * 4294967296)=4294967296 ^ k * (r * 4294967296) by rw [Nat.mul_comm (4294967296 ^ k) 4294967296,← Nat.mul_assoc,Nat.mul_comm]]
 rw [Nat.mul_comm q] at h
 omega
theorem val_take_drop (l:List Nat) (n:Nat) (h:n≤l.length):val l=val (l.take n)+4294967296 ^ n * val (l.drop n):=by
 have:=val_append (l.take n) (l.drop n)
 rw [List.take_append_drop,List.length_take,Nat.min_eq_left h] at this
 exact this
theorem sub_end {done a b:List Nat} {q n:Nat} (hk:done.length=n) (hd:Wd done) (ha:Wd a) (hn:a.length=n) (hle:val b≤val a)
  (h:val done+val (b.take n)=val (a.take n)+q * 4294967296 ^ n):val done=val a - val b:=by
 rw [List.take_of_length_le (l:=a) (by omega)] at h
 have h1:=val_lt a ha
 have h2:=val_lt done hd
 rw [hn] at h1
 rw [hk] at h2
 have hb:val (b.take n)=val b:=by
  rcases Nat.lt_or_ge b.length n with h3|h3
  ·rw [List.take_of_length_le (l:=b) (by omega)]
  ·have h4:=val_take_drop b n h3
   rcases Nat.eq_zero_or_pos (val (b.drop n)) with h5|h5
   ·rw [h5] at h4;omega
   ·have:4294967296 ^ n≤4294967296 ^ n * val (b.drop n):=Nat.le_mul_of_pos_right _ h5
    omega
 rw [hb] at h
 have h3:q=0:=by
  rcases Nat.eq_zero_or_pos q with h3|h3
  ·exact h3
  ·have:4294967296 ^ n≤q * 4294967296 ^ n:=Nat.le_mul_of_pos_left _ h3
   omega
 subst h3;omega
theorem getD_val (l:List Nat) (h:Wd l) (i:Nat):l.getD i 0=val l / 4294967296 ^ i % 4294967296:=by
 induction l generalizing i with
 | nil=>simp [val]
 | cons x l ih =>
  have ⟨hx,hl⟩:=h.cons
  cases i with
  | zero=>simp [val];omega
  | succ i =>
   rw [List.getD_cons_succ,ih hl,val,Nat.pow_succ',← Nat.div_div_eq_div_mul,show (x+4294967296 * val l) / 4294967296=val l by omega]
theorem drop_cons_getD (l:List Nat) (i:Nat) (h:i<l.length):l.drop i=l.getD i 0 :: l.drop (i+1):=by
 rw [List.drop_eq_getElem_cons h];simp [List.getD_eq_getElem?_getD,List.getElem?_eq_getElem h]
theorem small_round {suf l:List Nat} {rest k d:Nat} (hd:0<d) (hdB:d<4294967296) (hr:rest<d) (hk:k<l.length) (hx:l.getD k 0<4294967296)
  (h1:val suf=val (l.drop (k+1)) / d) (h2:rest=val (l.drop (k+1)) % d) :
  (rest * 4294967296+l.getD k 0) / d<4294967296∧val ((rest * 4294967296+l.getD k 0) / d :: suf)=val (l.drop k) / d∧(rest * 4294967296+l.getD k 0) % d=val (l.drop k) % d:=by
 rw [drop_cons_getD l k hk]
 simp only [val]
 generalize l.getD k 0=x at *
 generalize val (l.drop (k+1))=V at *
 have e:x+4294967296 * V=(rest * 4294967296+x)+d * (4294967296 * (V / d)):=by
  have:=Nat.div_add_mod V d
  rw [← h2] at this
  have e2:4294967296 * V=4294967296 * (d * (V / d)+rest):=by rw [this]
  rw [e2,Nat.mul_add,Nat.mul_left_comm];omega
 refine ⟨?_,?_,?_⟩
 ·rw [Nat.div_lt_iff_lt_mul hd]
  have:(rest+1) * 4294967296≤d * 4294967296:=Nat.mul_le_mul_right _ hr
  omega
 ·rw [e,Nat.add_mul_div_left _ _ hd,h1]
 ·rw [e,Nat.add_mul_mod_self_left]
theorem shift_round {done l:List Nat} {c k p:Nat} (hk:done.length=k) (hc:c<p) (hx:l.getD k 0<4294967296)
  (h:val done+c * 4294967296 ^ k=val (l.take k) * p) :
  val (done ++ [(c+l.getD k 0 * p) % 4294967296])+(c+l.getD k 0 * p) / 4294967296 * 4294967296 ^ (k+1)=val (l.take (k+1)) * p∧(c+l.getD k 0 * p) / 4294967296<p:=by
 rw [val_snoc,hk,val_take_succ,Nat.pow_succ]
 generalize l.getD k 0=x at *
 constructor
 ·have h1:4294967296 ^ k * ((c+x * p) % 4294967296)+(c+x * p) / 4294967296 * (4294967296 ^ k * 4294967296)=4294967296 ^ k * (c+x * p):=by
   rw [Nat.mul_comm ((c+x * p) / 4294967296),Nat.mul_assoc,← Nat.mul_add,Nat.add_comm ((c+x * p) % 4294967296),Nat.div_add_mod]
  rw [Nat.mul_add] at h1
  rw [Nat.mul_comm c] at h
  rw [Nat.add_mul,Nat.mul_assoc]
  omega
 ·rw [Nat.div_lt_iff_lt_mul (by omega)]
  have:(x+1) * p≤4294967296 * p:=Nat.mul_le_mul_right p (by omega)
  rw [Nat.add_mul,Nat.one_mul] at this
  rw [Nat.mul_comm p]
  omega
theorem back_word (V i m:Nat) (hm:m≤32) :
  ((V / 4294967296 ^ (i+1) % 4294967296) * 4294967296+V / 4294967296 ^ i % 4294967296) / 2 ^ m % 4294967296=V / 2 ^ m / 4294967296 ^ i % 4294967296:=by
 rw [Nat.div_div_eq_div_mul,Nat.mul_comm (2 ^ m),← Nat.div_div_eq_div_mul,Nat.pow_succ,← Nat.div_div_eq_div_mul]
 generalize V / 4294967296 ^ i=W
 have hp:0<2 ^ m:=Nat.pow_pos (by omega)
 obtain ⟨r,hr⟩:∃ r,4294967296=2 ^ m * r:=⟨2 ^ (32 - m),by rw [← Nat.pow_add,Nat.add_sub_cancel' hm]⟩
 have e:W=2 ^ m * (r * 4294967296 * (W / 4294967296 / 4294967296))+(W / 4294967296 % 4294967296 * 4294967296+W % 4294967296):=by
  rw [← Nat.mul_assoc,← Nat.mul_assoc,← hr];omega
 have h2:W / 2 ^ m=r * 4294967296 * (W / 4294967296 / 4294967296)+(W / 4294967296 % 4294967296 * 4294967296+W % 4294967296) / 2 ^ m:=by
  conv=>lhs;rw [e]
  rw [Nat.mul_add_div hp]
 rw [h2,Nat.mul_right_comm,Nat.mul_add_mod_self_right]
theorem back_round {done:List Nat} {k Q:Nat} (hk:done.length=k) (h:val done=Q % 4294967296 ^ k):val (done ++ [Q / 4294967296 ^ k % 4294967296])=Q % 4294967296 ^ (k+1):=by
 rw [val_snoc,hk,h,Nat.pow_succ,Nat.mod_mul]
theorem mul_round {P D b:List Nat} {carry i j x:Nat} (hP:P.length=i+j) (hc:carry<4294967296) (hx:x<4294967296) (hb:b.getD j 0<4294967296) (hD:D.getD (i+j) 0<4294967296)
  (h:val P+carry * 4294967296 ^ (i+j)=val (D.take (i+j))+x * 4294967296 ^ i * val (b.take j)) :
  val (P ++ [(carry+(x * b.getD j 0+D.getD (i+j) 0)) % 4294967296])+(carry+(x * b.getD j 0+D.getD (i+j) 0)) / 4294967296 * 4294967296 ^ (i+(j+1)) =
   val (D.take (i+(j+1)))+x * 4294967296 ^ i * val (b.take (j+1)):=by
 rw [val_snoc,hP,show i+(j+1)=i+j+1 by omega,val_take_succ,val_take_succ,Nat.pow_succ]
 generalize b.getD j 0=y at *
 generalize D.getD (i+j) 0=o at *
 have h1:4294967296 ^ (i+j) * ((carry+(x * y+o)) % 4294967296)+(carry+(x * y+o)) / 4294967296 * (4294967296 ^ (i+j) * 4294967296)=4294967296 ^ (i+j) * (carry+(x * y+o)):=by
  rw [Nat.mul_comm ((carry+(x * y+o)) / 4294967296),Nat.mul_assoc,← Nat.mul_add,Nat.add_comm ((carry+(x * y+o)) % 4294967296),Nat.div_add_mod]
 rw [Nat.mul_add,Nat.mul_add] at h1
 rw [Nat.mul_comm carry] at h
 have h2:x * 4294967296 ^ i * (val (b.take j)+4294967296 ^ j * y)=x * 4294967296 ^ i * val (b.take j)+4294967296 ^ (i+j) * (x * y):=by
  rw [Nat.mul_add,Nat.pow_add]
  congr 1
  rw [Nat.mul_assoc x,← Nat.mul_assoc (4294967296 ^ i),Nat.mul_left_comm x]
 rw [h2]
 omega
theorem mul_small {x y o c:Nat} (hx:x<4294967296) (hy:y<4294967296) (ho:o<4294967296) (hc:c<4294967296):c+(x * y+o)<18446744073709551616∧(c+(x * y+o)) / 4294967296<4294967296:=by
 have h:x * y≤4294967295 * 4294967295:=Nat.mul_le_mul (by omega) (by omega)
 omega
theorem less_round {done u v:List Nat} {q r c k x r':Nat} (hk:done.length=k) (h:val done+q * val (v.take k)=val (u.take k)+(r+c) * 4294967296 ^ k)
  (hx:x+(c+q * v.getD k 0) % 4294967296+r=u.getD k 0+r' * 4294967296) :
  val (done ++ [x])+q * val (v.take (k+1))=val (u.take (k+1))+(r'+(c+q * v.getD k 0) / 4294967296) * 4294967296 ^ (k+1):=by
 rw [val_snoc,hk,val_take_succ,val_take_succ,Nat.pow_succ,Nat.mul_add]
 generalize v.getD k 0=y at *
 generalize u.getD k 0=z at *
 generalize hP:4294967296 ^ k=P at *
 have e1:x+q * y+(r+c)=z+(r'+(c+q * y) / 4294967296) * 4294967296:=by
  generalize q * y=p at *
  omega
 have e2:P * (x+q * y+(r+c))=P * (z+(r'+(c+q * y) / 4294967296) * 4294967296):=by rw [e1]
 rw [Nat.mul_add,Nat.mul_add,Nat.mul_add P z] at e2
 rw [Nat.mul_comm (r+c)] at h
 rw [Nat.mul_left_comm q P y,Nat.mul_comm (r'+(c+q * y) / 4294967296) (P * 4294967296),Nat.mul_assoc P 4294967296,Nat.mul_comm 4294967296]
 omega
theorem less_end {done u:List Nat} {q r c n x r' V:Nat} (hk:done.length=n) (hu:u.length=n+1) (hd:Wd done) (hx8:x<4294967296) (hr':r'≤1)
  (h:val done+q * V=val (u.take n)+(r+c) * 4294967296 ^ n) (hx:x+c+r=u.getD n 0+r' * 4294967296) :
  val (done ++ [x])+q * V=val u+r' * 4294967296 ^ (n+1)∧((r' == 1)=decide (val u<q * V)):=by
 have h0:val u=val (u.take n)+4294967296 ^ n * u.getD n 0:=by
  have:=val_take_succ u n
  rwa [List.take_of_length_le (by omega)] at this
 have h1:val (done ++ [x])+q * V=val u+r' * 4294967296 ^ (n+1):=by
  rw [val_snoc,hk,h0,Nat.pow_succ]
  generalize u.getD n 0=z at *
  generalize hP:4294967296 ^ n=P at *
  have e2:P * (x+c+r)=P * (z+r' * 4294967296):=by rw [hx]
  rw [Nat.mul_add,Nat.mul_add,Nat.mul_add P z] at e2
  rw [Nat.add_mul,Nat.mul_comm r,Nat.mul_comm c] at h
  rw [Nat.mul_comm r' (P * 4294967296),Nat.mul_assoc P 4294967296,Nat.mul_comm 4294967296]
  omega
 refine ⟨h1,?_⟩
 have hw:Wd (done ++ [x]):=hd.append (Wd.one hx8)
 have h2:=val_lt _ hw
 rw [List.length_append,hk,List.length_singleton] at h2
 rcases Nat.eq_zero_or_pos r' with h3|h3
 ·subst h3;simp;omega
 ·obtain rfl:r'=1:=by omega
  simp;omega
theorem guess_low {W V top next u0 P high q rest:Nat} (hP:0<P) (hV:top * (4294967296 * P)+next * P≤V) (hW:W<high * (4294967296 * P)+(u0+1) * P)
  (hq:high=q * top+rest) (ht:rest * 4294967296+u0<q * next):W / V<q:=by
 have hVp:0<V∨V=0:=by omega
 rcases hVp with hVp|hVp
 ·rw [Nat.div_lt_iff_lt_mul hVp]
  have h1:q * (top * (4294967296 * P)+next * P)≤q * V:=Nat.mul_le_mul_left q hV
  have h2:(rest * 4294967296+u0+1) * P≤(q * next) * P:=Nat.mul_le_mul_right P ht
  have h3:high * (4294967296 * P)+(u0+1) * P=q * top * (4294967296 * P)+(rest * 4294967296+u0+1) * P:=by
   rw [hq,Nat.add_mul,Nat.add_assoc (rest * 4294967296),Nat.add_mul (rest * 4294967296),Nat.mul_assoc rest,Nat.add_assoc]
  rw [Nat.mul_add,← Nat.mul_assoc q top,← Nat.mul_assoc q next] at h1
  omega
 ·subst hVp
  rw [Nat.div_zero]
  rcases Nat.eq_zero_or_pos q with h|h
  ·subst h;simp at ht
  ·exact h
theorem guess_first {W V top P high:Nat} (hP:0<P) (ht:0<top) (hV:top * (4294967296 * P)≤V) (hW:W<(high+1) * (4294967296 * P)):W / V≤high / top:=by
 have hVp:0<V:=Nat.lt_of_lt_of_le (Nat.mul_pos ht (Nat.mul_pos (by omega) hP)) hV
 rw [← Nat.lt_succ_iff,Nat.div_lt_iff_lt_mul hVp]
 have h1:high+1≤(high / top).succ * top:=by
  have:=Nat.div_add_mod high top
  have h2:=Nat.mod_lt high ht
  rw [Nat.succ_mul,Nat.mul_comm];omega
 calc W<(high+1) * (4294967296 * P):=hW
  _≤(high / top).succ * top * (4294967296 * P):=Nat.mul_le_mul_right _ h1
  _=(high / top).succ * (top * (4294967296 * P)):=Nat.mul_assoc _ _ _
  _≤(high / top).succ * V:=Nat.mul_le_mul_left _ hV
theorem guess_high {W V top next u0 P high q rest V':Nat} (hP:0<P) (hV:V=top * (4294967296 * P)+next * P+V') (hV':V'<P) (ht:0<top)
  (hW:high * (4294967296 * P)+u0 * P≤W) (hq:high=q * top+rest) (hq8:q<4294967296) (hs:q * next≤rest * 4294967296+u0):q * V≤W+V:=by
 have h1:q * V'≤4294967296 * P:=Nat.mul_le_mul (by omega) (by omega)
 have h2:(q * next) * P≤(rest * 4294967296+u0) * P:=Nat.mul_le_mul_right P hs
 have h3:4294967296 * P≤top * (4294967296 * P):=Nat.le_mul_of_pos_left _ ht
 have h4:q * V=q * top * (4294967296 * P)+(q * next) * P+q * V':=by rw [hV,Nat.mul_add,Nat.mul_add,Nat.mul_assoc,Nat.mul_assoc]
 have h5:high * (4294967296 * P)+u0 * P=q * top * (4294967296 * P)+(rest * 4294967296+u0) * P:=by
  rw [hq,Nat.add_mul,Nat.add_mul (rest * 4294967296),Nat.mul_assoc rest];omega
 omega
theorem step_facts {u v:List Nat} {m un u1 u0 top next high:Nat} (hu:u.length=m+3) (hv:v.length=m+2) (hud:Wd u) (hvd:Wd v)
  (e1:un=u.getD (m+2) 0) (e2:u1=u.getD (m+1) 0) (e3:u0=u.getD m 0) (e4:top=v.getD (m+1) 0) (e5:next=v.getD m 0) (e6:high=un * 4294967296+u1) (hW:val u<val v * 4294967296) :
  (∃ V',val v=top * (4294967296 * 4294967296 ^ m)+next * 4294967296 ^ m+V'∧V'<4294967296 ^ m) ∧
  high * (4294967296 * 4294967296 ^ m)+u0 * 4294967296 ^ m≤val u∧val u<high * (4294967296 * 4294967296 ^ m)+(u0+1) * 4294967296 ^ m∧high<top * 4294967296+4294967296:=by
 have a1:=val_take_succ u m
 have a2:=val_take_succ u (m+1)
 have a3:=val_take_succ u (m+2)
 rw [List.take_of_length_le (by omega)] at a3
 have b1:=val_take_succ v m
 have b2:=val_take_succ v (m+1)
 rw [List.take_of_length_le (by omega)] at b2
 have c1:=val_lt _ (hud.take m)
 have c2:=val_lt _ (hvd.take m)
 rw [List.length_take,Nat.min_eq_left (by omega)] at c1 c2
 rw [← e3] at a1
 rw [← e2] at a2
 rw [← e1] at a3
 rw [← e5] at b1
 rw [← e4] at b2
 have hu1:u1<4294967296:=by rw [e2];exact hud.getD _
 have hnx:next<4294967296:=by rw [e5];exact hvd.getD _
 have hu0:u0<4294967296:=by rw [e3];exact hud.getD _
 rw [Nat.pow_succ] at a2 b2
 rw [show m+2=m+1+1 by omega,Nat.pow_succ,Nat.pow_succ] at a3
 generalize 4294967296 ^ m=P at *
 generalize val (u.take m)=U' at *
 generalize val (v.take m)=V' at *
 have hv2:val v=top * (4294967296 * P)+next * P+V':=by
  rw [b2,b1,Nat.mul_comm P next,Nat.mul_comm (P * 4294967296) top,Nat.mul_comm P 4294967296];omega
 have hu2:val u=high * (4294967296 * P)+u0 * P+U':=by
  rw [show m+1+1=m+2 by omega] at a2
  rw [a3,a2,a1,e6,Nat.add_mul,Nat.mul_comm P u0,Nat.mul_comm (P * 4294967296) u1,Nat.mul_comm P 4294967296,Nat.mul_comm (4294967296 * P * 4294967296) un,Nat.mul_assoc un,Nat.mul_comm (4294967296 * P) 4294967296];omega
 refine ⟨⟨V',hv2,c2⟩,by omega,by rw [Nat.add_mul];omega,?_⟩
 rcases Nat.lt_or_ge high (top * 4294967296+4294967296) with h|h
 ·exact h
 ·exfalso
  have h1:(top * 4294967296+4294967296) * (4294967296 * P)≤high * (4294967296 * P):=Nat.mul_le_mul_right _ h
  have h2:(next+1) * P≤4294967296 * P:=Nat.mul_le_mul_right _ hnx
  rw [Nat.add_mul] at h1 h2
  have h3:val v<top * (4294967296 * P)+4294967296 * P:=by omega
  have h4:(top * (4294967296 * P)+4294967296 * P) * 4294967296=top * 4294967296 * (4294967296 * P)+4294967296 * (4294967296 * P):=by
   rw [Nat.add_mul,Nat.mul_right_comm top,Nat.mul_comm (4294967296 * P) 4294967296]
  omega
theorem digit {W V q:Nat} (hV:0<V) (h1:W / V≤q) (h2:q * V≤W+V):(¬ W<q * V→W / V=q∧W % V+q * V=W)∧(W<q * V→1≤q∧W / V=q - 1∧W % V+q * V=W+V):=by
 have h3:=Nat.div_add_mod W V
 have h4:=Nat.mod_lt W hV
 constructor
 ·intro h
  have h5:q≤W / V:=(Nat.le_div_iff_mul_le hV).2 (by omega)
  have h6:W / V=q:=by omega
  rw [h6,Nat.mul_comm] at h3
  exact ⟨h6,by omega⟩
 ·intro h
  have hq:1≤q:=by
   rcases Nat.eq_zero_or_pos q with h5|h5
   ·subst h5;simp at h
   ·exact h5
  obtain ⟨p,rfl⟩:∃ p,q=p+1:=⟨q - 1,by omega⟩
  rw [Nat.add_mul,Nat.one_mul] at h h2
  have h5:p≤W / V:=(Nat.le_div_iff_mul_le hV).2 (by omega)
  have h6:W / V<p+1:=by rw [Nat.div_lt_iff_lt_mul hV,Nat.add_mul,Nat.one_mul];exact h
  have h7:W / V=p:=by omega
  rw [h7,Nat.mul_comm] at h3
  refine ⟨hq,by omega,?_⟩
  rw [Nat.add_mul,Nat.one_mul];omega
def cmpN (a b:Nat):Int:=if a<b then -1 else if a=b then 0 else 1
theorem cmpN_lt {a b:Nat} (h:a<b):cmpN a b=-1:=if_pos h
theorem cmpN_eq {a b:Nat} (h:a=b):cmpN a b=0:=by rw [cmpN,if_neg (by omega),if_pos h]
theorem cmpN_gt {a b:Nat} (h:b<a):cmpN a b=1:=by rw [cmpN,if_neg (by omega),if_neg (by omega)]
theorem words_lt {p q:Nat} (h:(wordsOf p).length<(wordsOf q).length):p<q:=by
 have h1:=(length_lt q (wordsOf p).length).1 h
 have h2:=(length_wordsOf p (wordsOf p).length).1 (Nat.le_refl _)
 omega
theorem div_step (p i:Nat):p / 4294967296 ^ i=(p / 4294967296 ^ (i+1)) * 4294967296+p / 4294967296 ^ i % 4294967296:=by
 rw [Nat.pow_succ,← Nat.div_div_eq_div_mul];omega
theorem lt_of_div_lt {p q m:Nat} (h:p / m<q / m):p<q:=by
 rcases Nat.lt_or_ge p q with h1|h1
 ·exact h1
 ·have:=Nat.div_le_div_right (c:=m) h1;omega
theorem words_step {p q i:Nat} (h:p / 4294967296 ^ (i+1)=q / 4294967296 ^ (i+1)) :
  ((wordsOf p).getD i 0=(wordsOf q).getD i 0→p / 4294967296 ^ i=q / 4294967296 ^ i)∧((wordsOf p).getD i 0<(wordsOf q).getD i 0→p<q):=by
 have h1:=div_step p i
 have h2:=div_step q i
 rw [getD_wordsOf,getD_wordsOf]
 refine ⟨fun h3=>by omega,fun h3=>lt_of_div_lt (m:=4294967296 ^ i) (by omega)⟩
theorem words_top (p:Nat):p / 4294967296 ^ (wordsOf p).length=0:=Nat.div_eq_of_lt ((length_wordsOf p _).1 (Nat.le_refl _))
end Go.Proofs.YtdgleeglndcjhaaGreatDoor
