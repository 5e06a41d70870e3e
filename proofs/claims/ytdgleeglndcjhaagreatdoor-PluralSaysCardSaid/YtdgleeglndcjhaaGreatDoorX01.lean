import Derived.Test.YtdgleeglndcjhaaGreatDoorProg
import Derived.WalkKit
import Derived.ProofKit
import Derived.Below
import Derived.Tactics
import Derived.Tactics2
import Derived.OwnWalk
import Derived.WalkSpells
import Derived.Laws.MakeOwn
import Derived.Laws.OwnMore
import Derived.Laws.NewBlocks
import Derived.Deep.RegionHeld3
import Derived.Deep.LoopGhost
import Derived.Deep.DeepCutAuto
import Derived.Deep.QuietTactic
import Derived.BigQuiet
import Derived.KernelRfl
import Derived.Lib.Hide
import Derived.IntWalk
namespace Go.RowKit
theorem Hid.o {p:Prop} (h:Hid p):p := h
end Go.RowKit
namespace Go.Proofs.YtdgleeglndcjhaaGreatDoor
open Go.RowKit
theorem MT {α : Type _} (l : List α) (i : Nat) (a : α) : l.toArray.setIfInBounds i a = (l.set i a).toArray := List.setIfInBounds_toArray l i a
theorem M0 {α : Type _} {x : α} {xs : List α} {a : α} : (x :: xs).set 0 a = a :: xs := rfl
theorem M1 {α : Type _} {x : α} {xs : List α} {i : Nat} {a : α} : (x :: xs).set (i + 1) a = x :: xs.set i a := rfl
theorem M2 {α : Type _} {a : α} {l : List α} : (a :: l)[0]? = some a := rfl
theorem M3 {α : Type _} {a : α} {i : Nat} {l : List α} : (a :: l)[i + 1]? = l[i]? := rfl
def SlC (w:World) (v:Value) (sz n:Nat) (cs:List Value):Prop :=
 ∃ A c,v=.slice A n c∧n≤c∧cs.length=n * sz∧(0<cs.length→∃ b o,A=some ⟨b,o,none⟩∧∀ j x,cs[j]?=some x→w.cell? ⟨b,o+j,none⟩=some x)
theorem SlC.below {w w':World} {v:Value} {sz n:Nat} {cs:List Value} {B:Nat} (h:SlC w v sz n cs) (hb:Below B w w') (hB:w.heap.size≤B):SlC w' v sz n cs:=by
 obtain ⟨A,c,h1,h2,h3,h4⟩:=h;refine ⟨A,c,h1,h2,h3,fun hp=>?_⟩;obtain ⟨b,o,h5,h6⟩:=h4 hp;exact ⟨b,o,h5,fun j x hx=>(hb.cell (Nat.lt_of_lt_of_le (World.block_lt_of_cell? w _ (h6 j x hx)) hB)).trans (h6 j x hx)⟩
theorem SlC.nil (w:World) (sz:Nat) (c:Nat) (A:Option Addr):SlC w (.slice A 0 c) sz 0 []:=⟨A,c,rfl,Nat.zero_le _,by simp,fun h=>by simp at h⟩
theorem SlC.own {w:World} {base:Nat} {e:TypeId} {sz n:Nat} {v:Value} {xs:List Value} (h:w.ownsRow base e sz v n xs):SlC w v sz n xs:=by
 have hl:=h.1;rcases h.2 with ⟨rfl,rfl⟩|⟨g,cap,cur,rfl,hb,hh,hc,_⟩
 ·have:xs=[]:=List.eq_nil_of_length_eq_zero (by simpa using hl);subst this;exact SlC.nil w sz 0 none
 ·refine ⟨_,cap,rfl,hc,hl,fun _=>⟨g,0,rfl,fun j x hx=>?_⟩⟩;have:=h.cells (g:=g) rfl j x hx;have he:(⟨g,0,none⟩:Addr).add j=⟨g,0+j,none⟩:=by unfold Addr.add;split <;> simp_all
  rw [← he];exact this
theorem SlC.take {w:World} {A:Option Addr} {sz n c:Nat} {cs:List Value} (h:SlC w (.slice A n c) sz n cs) (k:Nat) (hk:k≤n):SlC w (.slice A k c) sz k (cs.take (k * sz)):=by
 obtain ⟨A',c',h1,h2,h3,h4⟩:=h;obtain ⟨rfl,_,rfl⟩:=Value.slice.inj h1;have hm:k * sz≤n * sz:=Nat.mul_le_mul_right sz hk;refine ⟨A,c,rfl,by omega,by rw [List.length_take];omega,fun hp=>?_⟩;obtain ⟨b,o,h5,h6⟩:=h4 (by rw [List.length_take] at hp;omega);refine ⟨b,o,h5,fun j x hx=>h6 j x ?_⟩;rw [List.getElem?_take] at hx;split at hx <;> simp_all
theorem wp_letter {P:Program} {c:Code} {Q:Exit→Act→World→Prop} {a:Act} {w:World} (R:World→Prop) (h:R w) (k:∀ w1,R w1→c.wp P Q a w1):c.wp P Q a w:=k w h
theorem below_after {B:Nat} {w a b:World} (h:Below B w a) (hB:B≤w.heap.size) (k:Below a.heap.size a b):Below B w b:=h.trans (k.mono (Nat.le_trans hB h.size))
theorem run_field24 (v:Value) (w:World):(Instr.field 24 (.agg #[v]) 0).run Tryz.prog w=.ok v w:=by
 simp [Instr.field,asAgg,go_sem]
theorem run_field37_0 (s v u:Value) (w:World):(Instr.field 37 (.agg #[s,v,u]) 0).run Tryz.prog w=.ok (.agg #[s,v]) w:=by
 simp [Instr.field,asAgg,go_sem]
attribute [go_sem] run_field24 run_field37_0
theorem quiet_eq {P:Program} {f:FuncId} {args:Array Value} {w:World} {n:Nat} {v:Value}
  (h:Calls P f args (w.drewN n) fun e w'=>e=.returned v∧w.drewN n=w'):Calls P f args (w.drewN n) fun e w''=>e=.returned v∧∃ m,w''=w.drewN m :=
 h.mono fun _ _ ⟨he,hm⟩=>⟨he,n,hm.symm⟩
theorem below_drewN {B:Nat} {a w:World} (h:Below B a w) (n:Nat):Below B a (w.drewN n):=⟨h.os,h.tape,h.output,h.size,h.block⟩
theorem below_on {N:Nat} {w1 a b:World} (h:Below N w1 a) (hN:N≤w1.heap.size) (k:Below a.heap.size a b):Below N w1 b:=h.trans (k.mono (Nat.le_trans hN h.size))
theorem below_set {N:Nat} {w1 a:World} (h:Below N w1 a) (b o:Nat) (hb:N≤b) (u:Value):Below N w1 (a.setCell ⟨b,o,none⟩ u):=h.setCell hb u
def Blk (w:World) (g:Nat) (t:TypeId) (l:List Value):Prop:=w.heap[g]?=some (.cells l.toArray t (0,0))
theorem qh {p:Prop} (h:p):Hid p := h
theorem ql {n:Nat}:n≤n := Nat.le_refl n
theorem qt {w a b:World} (h:Hid (Below w.heap.size w a)) (k:Below a.heap.size a b):Hid (Below w.heap.size w b) := Below.trans h (k.mono (Below.size h))
theorem Blk.lt {w:World} {g:Nat} {t:TypeId} {l:List Value} (h:Blk w g t l):g<w.heap.size:=(Array.getElem?_eq_some_iff.1 h).1
theorem Blk.cell {w:World} {g:Nat} {t:TypeId} {l:List Value} (h:Blk w g t l) (i:Nat):w.cell? ⟨g,i,none⟩=l[i]?:=by
 unfold Blk at h;simp [World.cell?,h]
theorem Blk.frozen {w:World} {g:Nat} {t:TypeId} {l:List Value} (h:Blk w g t l) (i:Nat):w.frozen? ⟨g,i,none⟩=false:=by
 unfold Blk at h;simp [World.frozen?,h]
theorem Blk.c1 {w:World} {g:Nat} {t:TypeId} {a0:Value} {l:List Value} (h:Blk w g t (a0::l)):w.cell? ⟨g,0,none⟩=some a0 := h.cell 0
theorem Blk.cf1 {w:World} {g:Nat} {t:TypeId} {a0:Value} {l:List Value} (h:Blk w g t (a0::l)):w.cell? ⟨g,0,none⟩=some a0∧w.frozen? ⟨g,0,none⟩=false := ⟨h.cell 0,h.frozen 0⟩
theorem Blk.c2 {w:World} {g:Nat} {t:TypeId} {a0 a1:Value} {l:List Value} (h:Blk w g t (a0::a1::l)):w.cell? ⟨g,0,none⟩=some a0∧w.cell? ⟨g,1,none⟩=some a1 := ⟨h.cell 0,h.cell 1⟩
theorem Blk.cf2 {w:World} {g:Nat} {t:TypeId} {a0 a1:Value} {l:List Value} (h:Blk w g t (a0::a1::l)):w.cell? ⟨g,0,none⟩=some a0∧w.cell? ⟨g,1,none⟩=some a1∧w.frozen? ⟨g,0,none⟩=false∧w.frozen? ⟨g,1,none⟩=false := ⟨h.cell 0,h.cell 1,h.frozen 0,h.frozen 1⟩
theorem Blk.c3 {w:World} {g:Nat} {t:TypeId} {a0 a1 a2:Value} {l:List Value} (h:Blk w g t (a0::a1::a2::l)):w.cell? ⟨g,0,none⟩=some a0∧w.cell? ⟨g,1,none⟩=some a1∧w.cell? ⟨g,2,none⟩=some a2 := ⟨h.cell 0,h.cell 1,h.cell 2⟩
theorem Blk.cf3 {w:World} {g:Nat} {t:TypeId} {a0 a1 a2:Value} {l:List Value} (h:Blk w g t (a0::a1::a2::l)):w.cell? ⟨g,0,none⟩=some a0∧w.cell? ⟨g,1,none⟩=some a1∧w.cell? ⟨g,2,none⟩=some a2∧w.frozen? ⟨g,0,none⟩=false∧w.frozen? ⟨g,1,none⟩=false∧w.frozen? ⟨g,2,none⟩=false := ⟨h.cell 0,h.cell 1,h.cell 2,h.frozen 0,h.frozen 1,h.frozen 2⟩
theorem Blk.c4 {w:World} {g:Nat} {t:TypeId} {a0 a1 a2 a3:Value} {l:List Value} (h:Blk w g t (a0::a1::a2::a3::l)):w.cell? ⟨g,0,none⟩=some a0∧w.cell? ⟨g,1,none⟩=some a1∧w.cell? ⟨g,2,none⟩=some a2∧w.cell? ⟨g,3,none⟩=some a3 := ⟨h.cell 0,h.cell 1,h.cell 2,h.cell 3⟩
theorem Blk.cf4 {w:World} {g:Nat} {t:TypeId} {a0 a1 a2 a3:Value} {l:List Value} (h:Blk w g t (a0::a1::a2::a3::l)):w.cell? ⟨g,0,none⟩=some a0∧w.cell? ⟨g,1,none⟩=some a1∧w.cell? ⟨g,2,none⟩=some a2∧w.cell? ⟨g,3,none⟩=some a3∧w.frozen? ⟨g,0,none⟩=false∧w.frozen? ⟨g,1,none⟩=false∧w.frozen? ⟨g,2,none⟩=false∧w.frozen? ⟨g,3,none⟩=false := ⟨h.cell 0,h.cell 1,h.cell 2,h.cell 3,h.frozen 0,h.frozen 1,h.frozen 2,h.frozen 3⟩
theorem Blk.c5 {w:World} {g:Nat} {t:TypeId} {a0 a1 a2 a3 a4:Value} {l:List Value} (h:Blk w g t (a0::a1::a2::a3::a4::l)):w.cell? ⟨g,0,none⟩=some a0∧w.cell? ⟨g,1,none⟩=some a1∧w.cell? ⟨g,2,none⟩=some a2∧w.cell? ⟨g,3,none⟩=some a3∧w.cell? ⟨g,4,none⟩=some a4 := ⟨h.cell 0,h.cell 1,h.cell 2,h.cell 3,h.cell 4⟩
theorem Blk.cf5 {w:World} {g:Nat} {t:TypeId} {a0 a1 a2 a3 a4:Value} {l:List Value} (h:Blk w g t (a0::a1::a2::a3::a4::l)):w.cell? ⟨g,0,none⟩=some a0∧w.cell? ⟨g,1,none⟩=some a1∧w.cell? ⟨g,2,none⟩=some a2∧w.cell? ⟨g,3,none⟩=some a3∧w.cell? ⟨g,4,none⟩=some a4∧w.frozen? ⟨g,0,none⟩=false∧w.frozen? ⟨g,1,none⟩=false∧w.frozen? ⟨g,2,none⟩=false∧w.frozen? ⟨g,3,none⟩=false∧w.frozen? ⟨g,4,none⟩=false := ⟨h.cell 0,h.cell 1,h.cell 2,h.cell 3,h.cell 4,h.frozen 0,h.frozen 1,h.frozen 2,h.frozen 3,h.frozen 4⟩
theorem Blk.c6 {w:World} {g:Nat} {t:TypeId} {a0 a1 a2 a3 a4 a5:Value} {l:List Value} (h:Blk w g t (a0::a1::a2::a3::a4::a5::l)):w.cell? ⟨g,0,none⟩=some a0∧w.cell? ⟨g,1,none⟩=some a1∧w.cell? ⟨g,2,none⟩=some a2∧w.cell? ⟨g,3,none⟩=some a3∧w.cell? ⟨g,4,none⟩=some a4∧w.cell? ⟨g,5,none⟩=some a5 := ⟨h.cell 0,h.cell 1,h.cell 2,h.cell 3,h.cell 4,h.cell 5⟩
theorem Blk.cf6 {w:World} {g:Nat} {t:TypeId} {a0 a1 a2 a3 a4 a5:Value} {l:List Value} (h:Blk w g t (a0::a1::a2::a3::a4::a5::l)):w.cell? ⟨g,0,none⟩=some a0∧w.cell? ⟨g,1,none⟩=some a1∧w.cell? ⟨g,2,none⟩=some a2∧w.cell? ⟨g,3,none⟩=some a3∧w.cell? ⟨g,4,none⟩=some a4∧w.cell? ⟨g,5,none⟩=some a5∧w.frozen? ⟨g,0,none⟩=false∧w.frozen? ⟨g,1,none⟩=false∧w.frozen? ⟨g,2,none⟩=false∧w.frozen? ⟨g,3,none⟩=false∧w.frozen? ⟨g,4,none⟩=false∧w.frozen? ⟨g,5,none⟩=false := ⟨h.cell 0,h.cell 1,h.cell 2,h.cell 3,h.cell 4,h.cell 5,h.frozen 0,h.frozen 1,h.frozen 2,h.frozen 3,h.frozen 4,h.frozen 5⟩
theorem Blk.c7 {w:World} {g:Nat} {t:TypeId} {a0 a1 a2 a3 a4 a5 a6:Value} {l:List Value} (h:Blk w g t (a0::a1::a2::a3::a4::a5::a6::l)):w.cell? ⟨g,0,none⟩=some a0∧w.cell? ⟨g,1,none⟩=some a1∧w.cell? ⟨g,2,none⟩=some a2∧w.cell? ⟨g,3,none⟩=some a3∧w.cell? ⟨g,4,none⟩=some a4∧w.cell? ⟨g,5,none⟩=some a5∧w.cell? ⟨g,6,none⟩=some a6 := ⟨h.cell 0,h.cell 1,h.cell 2,h.cell 3,h.cell 4,h.cell 5,h.cell 6⟩
theorem Blk.cf7 {w:World} {g:Nat} {t:TypeId} {a0 a1 a2 a3 a4 a5 a6:Value} {l:List Value} (h:Blk w g t (a0::a1::a2::a3::a4::a5::a6::l)):w.cell? ⟨g,0,none⟩=some a0∧w.cell? ⟨g,1,none⟩=some a1∧w.cell? ⟨g,2,none⟩=some a2∧w.cell? ⟨g,3,none⟩=some a3∧w.cell? ⟨g,4,none⟩=some a4∧w.cell? ⟨g,5,none⟩=some a5∧w.cell? ⟨g,6,none⟩=some a6∧w.frozen? ⟨g,0,none⟩=false∧w.frozen? ⟨g,1,none⟩=false∧w.frozen? ⟨g,2,none⟩=false∧w.frozen? ⟨g,3,none⟩=false∧w.frozen? ⟨g,4,none⟩=false∧w.frozen? ⟨g,5,none⟩=false∧w.frozen? ⟨g,6,none⟩=false := ⟨h.cell 0,h.cell 1,h.cell 2,h.cell 3,h.cell 4,h.cell 5,h.cell 6,h.frozen 0,h.frozen 1,h.frozen 2,h.frozen 3,h.frozen 4,h.frozen 5,h.frozen 6⟩
theorem Blk.c8 {w:World} {g:Nat} {t:TypeId} {a0 a1 a2 a3 a4 a5 a6 a7:Value} {l:List Value} (h:Blk w g t (a0::a1::a2::a3::a4::a5::a6::a7::l)):w.cell? ⟨g,0,none⟩=some a0∧w.cell? ⟨g,1,none⟩=some a1∧w.cell? ⟨g,2,none⟩=some a2∧w.cell? ⟨g,3,none⟩=some a3∧w.cell? ⟨g,4,none⟩=some a4∧w.cell? ⟨g,5,none⟩=some a5∧w.cell? ⟨g,6,none⟩=some a6∧w.cell? ⟨g,7,none⟩=some a7 := ⟨h.cell 0,h.cell 1,h.cell 2,h.cell 3,h.cell 4,h.cell 5,h.cell 6,h.cell 7⟩
theorem Blk.cf8 {w:World} {g:Nat} {t:TypeId} {a0 a1 a2 a3 a4 a5 a6 a7:Value} {l:List Value} (h:Blk w g t (a0::a1::a2::a3::a4::a5::a6::a7::l)):w.cell? ⟨g,0,none⟩=some a0∧w.cell? ⟨g,1,none⟩=some a1∧w.cell? ⟨g,2,none⟩=some a2∧w.cell? ⟨g,3,none⟩=some a3∧w.cell? ⟨g,4,none⟩=some a4∧w.cell? ⟨g,5,none⟩=some a5∧w.cell? ⟨g,6,none⟩=some a6∧w.cell? ⟨g,7,none⟩=some a7∧w.frozen? ⟨g,0,none⟩=false∧w.frozen? ⟨g,1,none⟩=false∧w.frozen? ⟨g,2,none⟩=false∧w.frozen? ⟨g,3,none⟩=false∧w.frozen? ⟨g,4,none⟩=false∧w.frozen? ⟨g,5,none⟩=false∧w.frozen? ⟨g,6,none⟩=false∧w.frozen? ⟨g,7,none⟩=false := ⟨h.cell 0,h.cell 1,h.cell 2,h.cell 3,h.cell 4,h.cell 5,h.cell 6,h.cell 7,h.frozen 0,h.frozen 1,h.frozen 2,h.frozen 3,h.frozen 4,h.frozen 5,h.frozen 6,h.frozen 7⟩
theorem Blk.put {w:World} {g:Nat} {t:TypeId} {l:List Value} (h:Blk w g t l) (i:Nat) (u:Value):Blk (w.setCell ⟨g,i,none⟩ u) g t (l.set i u):=by
 unfold Blk at *
 simp [World.setCell,Array.getElem?_modify,h]
theorem Blk.below {w w':World} {g B:Nat} {t:TypeId} {l:List Value} (h:Blk w g t l) (hb:Below B w w') (hB:g<B):Blk w' g t l:=by
 unfold Blk at *
 rw [hb.block g hB];exact h
theorem Blk.alloc {w:World} {g:Nat} {t:TypeId} {l:List Value} (h:Blk w g t l) (o:Obj):Blk (w.alloc o) g t l:=by
 have:=h.lt;unfold Blk at *
 rw [Below.heap_alloc _ _ _ this];exact h
theorem Blk.new (w:World) (t:TypeId) (l:List Value):Blk (w.alloc (.cells l.toArray t (0,0))) w.heap.size t l:=by
 show (w.heap.push _)[w.heap.size]?=_;simp
theorem Blk.made (w:World) (t:TypeId) (l:List Value) (g:Nat) (c:Array Value) (hg:g=w.heap.size) (hc:c=l.toArray):Blk (w.alloc (.cells c t (0,0))) g t l:=by
 subst hg;subst hc;exact Blk.new w t l
theorem madeCells_one (z:Value) (n:Nat):madeCells #[z] n=(List.replicate n z).toArray:=by
 rw [← toList_madeCells_one]
theorem wpList_make_blk {P:Program} (w:World) {ops:Array Oper} {rest:List Oper} {o:Oper} {a:Act} {Q:Exit→Act→World→Prop}
  (hg:o.guard=none) (l c:Operand) (t:TypeId) (hop:o.op=Op.makeSlice t l c)
  (e:TypeId) (i:TypeInfo) (z:Value) (h1:P.underlying t=some (.slice e)) (h2:P.info? e=some i) (h3:i.zero=some z) (h4:i.size=1) (hz:z.cells=#[z])
  (kl kc:IntKind) (L C:Int) (n:Nat) (hl:a.eval l=.int kl L) (hc:a.eval c=.int kc C) (hL:L=(n:Int)) (hC:C=(n:Int)) (b2:i.bytes * n≤281474976710656) (b3:n≤maxLen)
  (hK:wpList P ops Q rest (a.put o.dst (.slice (some ⟨w.heap.size,0,none⟩) n n)) (w.alloc (.cells (List.replicate n z).toArray e))) :
  wpList P ops Q (o :: rest) a w:=by
 refine wpList_plain hg fun K hK'=>?_
 have h63':(n:Int)≤9223372036854775807:=by
  have h:=b3;simp [maxLen] at h;omega
 have hb':(i.bytes:Int) * (n:Int)≤281474976710656:=by
  have h:((i.bytes * n:Nat):Int)≤281474976710656:=by omega
  rwa [Int.natCast_mul] at h
 have hr:=run_make (P:=P) w t e i z h1 h2 h3 kl kc n n (by omega) (Int.le_refl _) hb' h63';simp only [Int.toNat_natCast,h4,Nat.mul_one,hz,madeCells_one] at hr;subst hL;subst hC;unfold Oper.wp;simp [execOp,hop,hl,hc,hr,Result.andThen];exact hK' _ _ hK
theorem Tryz_info43:(Tryz.prog.info? 43).map (fun i=>(i.zero,i.size,i.bytes))=some (some (.int .u32 0),1,4):=by kernel_rfl
theorem Tryz_info3:(Tryz.prog.info? 3).map (fun i=>(i.zero,i.size,i.bytes))=some (some (.int .i64 0),1,8):=by kernel_rfl
theorem Blk.slc {w:World} {g:Nat} {t:TypeId} {l:List Value} (h:Blk w g t l) (n c:Nat) (hn:n≤l.length) (hc:n≤c):SlC w (.slice (some ⟨g,0,none⟩) n c) 1 n (l.take n):=by
 refine ⟨_,c,rfl,hc,by simp;omega,fun _=>⟨g,0,rfl,fun j x hx=>?_⟩⟩;rw [Nat.zero_add,h.cell j];rw [List.getElem?_take] at hx;split at hx <;> simp_all
end Go.Proofs.YtdgleeglndcjhaaGreatDoor
