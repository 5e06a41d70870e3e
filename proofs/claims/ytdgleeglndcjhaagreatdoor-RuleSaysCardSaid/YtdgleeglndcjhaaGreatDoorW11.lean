import Derived.Test.YtdgleeglndcjhaaGreatDoorW10
import Derived.Deep.CutBlock
set_option linter.unusedSimpArgs false
set_option linter.unusedVariables false
set_option maxHeartbeats 8000000
set_option maxRecDepth 100000
namespace Go.Proofs.YtdgleeglndcjhaaGreatDoor
open Go.RowKit
def CondV (w:World) (B:Nat) (l m:Int) (nt:Bool) (vF vT:Value) (c:Cnd):Prop:=l=c.letter∧m=c.mod∧nt=c.nt∧IntsB w B vF c.fr∧IntsB w B vT c.to
theorem CondV.below {w w':World} {B:Nat} {l m:Int} {nt:Bool} {vF vT:Value} {c:Cnd} (h:CondV w B l m nt vF vT c) (hb:Below w.heap.size w w'):CondV w' B l m nt vF vT c :=
 ⟨h.1,h.2.1,h.2.2.1,h.2.2.2.1.below hb,h.2.2.2.2.below hb⟩
def CondPost (w:World) (ws:List Bs) (e:Ending) (w':World):Prop :=
 ∃ l m nt vF vT,Below w.heap.size w w'∧((∃ c,cond? ws=some c∧e=.returned (.tuple #[.agg #[.int .u8 l,.int .i64 m,.bool nt,vF,vT],.bool true])∧(∃ A n c,vF=.slice A n c)∧(∃ A n c,vT=.slice A n c)∧CondV w' w.heap.size l m nt vF vT c)∨(cond? ws=none∧e=.returned (.tuple #[.agg #[.int .u8 l,.int .i64 m,.bool nt,vF,vT],.bool false])∧(∃ A n c,vF=.slice A n c)∧(∃ A n c,vT=.slice A n c)))
theorem contains_one (s:Bs) (l:UInt8):Lib.contains s [l]=decide (l ∈ s):=by
 unfold Lib.contains
 rw [decide_eq_decide]
 rcases Lib.index_spec s [l] with ⟨h1,h2⟩|⟨i,h1,h2,h3,h4⟩
 ·rw [h1]
  constructor
  ·intro h;omega
  ·intro hm
   obtain ⟨k,hk⟩:=List.getElem?_of_mem hm
   have hlt:k<s.length:=(List.getElem?_eq_some_iff.1 hk).1
   have:=h2 k (by omega)
   rw [occAt_one,hk] at this
   simp at this
 ·rw [h1]
  constructor
  ·intro _
   rw [occAt_one] at h3
   exact List.mem_of_getElem? (of_decide_eq_true h3)
  ·intro _;omega
theorem str_letter (w:World) (l:UInt8) (hg:GW w) :
  Calls Tryz.prog 81 #[.string ⟨#[110,105,118,119,102,116,101]⟩,.string ⟨#[l]⟩] w fun e w'=>e=.returned (.bool (decide (l ∈ letters)))∧Below w.heap.size w w':=by
 have:=str_contains ⟨#[110,105,118,119,102,116,101]⟩ ⟨#[l]⟩ w hg (by decide)
 rw [show Lib.contains (⟨#[110,105,118,119,102,116,101]⟩:ByteArray).data.toList (⟨#[l]⟩:ByteArray).data.toList=decide (l ∈ letters) from contains_one _ l] at this
 exact this
theorem ba_one (l:UInt8) (h:0<(⟨#[l]⟩:ByteArray).size):(⟨#[l]⟩:ByteArray)[0]'h=l:=rfl
attribute [local go_sem] ba_one
theorem calls_at {P:Program} {f:FuncId} {args:Array Value} {K:Ending→World→Prop} {w:World} (R:World→Prop) (h:R w) (k:∀ w1,R w1→Calls P f args w1 K):Calls P f args w K:=k w h
def Z47:List Value:=[.int .u8 0,.int .i64 0,.bool false,.slice none 0 0,.slice none 0 0]
theorem blk_far {w:World} {g:Nat} {t:TypeId} {l:List Value} (h:Blk w g t l) (p:Addr) (u:Value) (hp:g≠p.block):Blk (w.setCell p u) g t l:=by
 unfold Blk at *
 rw [Below.heap_setCell _ _ _ _ hp];exact h
structure CS (W:World) (cs:List Value) (w:World):Prop where
 res:Blk w W.heap.size 47 [.int .u8 0,.int .i64 0,.bool false,.slice none 0 0,.slice none 0 0]
 cnd:Blk w (W.heap.size+1) 47 cs
 bel:Below W.heap.size W w
theorem CS.below {W w w':World} {cs:List Value} (h:CS W cs w) (hb:Below w.heap.size w w'):CS W cs w' :=
 ⟨h.res.below hb h.res.lt,h.cnd.below hb h.cnd.lt,h.bel.trans (hb.mono h.bel.size)⟩
theorem CS.put {W w:World} {cs:List Value} (h:CS W cs w) (i:Nat) (u:Value):CS W (cs.set i u) (w.setCell ⟨W.heap.size+1,i,none⟩ u) :=
 ⟨blk_far h.res _ _ (by simp),h.cnd.put i u,below_set h.bel _ _ (by omega) _⟩
theorem CS.fin {W w:World} {cs:List Value} {a b c d e:Value} (h:CS W cs w):Blk (((((w.setCell ⟨W.heap.size,0,none⟩ a).setCell ⟨W.heap.size,1,none⟩ b).setCell ⟨W.heap.size,2,none⟩ c).setCell ⟨W.heap.size,3,none⟩ d).setCell ⟨W.heap.size,4,none⟩ e) W.heap.size 47 [a,b,c,d,e] ∧
  Below W.heap.size W (((((w.setCell ⟨W.heap.size,0,none⟩ a).setCell ⟨W.heap.size,1,none⟩ b).setCell ⟨W.heap.size,2,none⟩ c).setCell ⟨W.heap.size,3,none⟩ d).setCell ⟨W.heap.size,4,none⟩ e) :=
 ⟨((((h.res.put 0 a).put 1 b).put 2 c).put 3 d).put 4 e,below_set (below_set (below_set (below_set (below_set h.bel _ _ ql _) _ _ ql _) _ _ ql _) _ _ ql _) _ _ ql _⟩
theorem rule_cond (w:World) (A:Option Addr) (n c:Nat) (ws:List Bs) (hG:GW w) (h:StrsAre w A n c ws) (hl:ws.length≤1000000) (hm:∀ t ∈ ws,t.length≤1000000) :
  Calls Tryz.prog 47 #[.slice A n c] w (CondPost w ws):=by
 obtain rfl:n=ws.length:=h.len
 have hcap:=h.cap
 have HX:=qh h
 have HG:=qh hG
 have HM:=qh hm
 clear h hG hm
 match ws,HX,HM,hl,hcap with
 | [],HX,HM,hl,hcap =>
  go_enter Tryz.func47,Tryz.ntmps47
  go_upto_region 2 with fail
  refine wp_letter (fun w1=>CS w [.int .u8 0,.int .i64 0,.bool false,.slice none 0 0,.slice none 0 0] w1) ⟨(Blk.made _ 47 _ _ _ rfl rfl).alloc _,Blk.made _ 47 _ _ _ (by simp) rfl,((Below.refl _ _).alloc ql _).alloc (by simp) _⟩ ?_
  rintro w1 hs1
  have S1:=qh hs1
  clear hs1
  obtain ⟨k0,k1,k2,k3,k4,f0,f1,f2,f3,f4⟩:=S1.out.cnd.cf5
  obtain ⟨r0,r1,r2,r3,r4,g0,g1,g2,g3,g4⟩:=S1.out.res.cf5
  simp only [List.length_nil] at *
  go_wp2_with fail
  obtain ⟨hf,hbf⟩:=CS.fin (a:=.int .u8 0) (b:=.int .i64 0) (c:=.bool false) (d:=.slice none 0 0) (e:=.slice none 0 0) S1.out
  obtain ⟨q0,q1,q2,q3,q4⟩:=hf.c5
  generalize (((((w1.setCell ⟨w.heap.size,0,none⟩ (.int .u8 0)).setCell ⟨w.heap.size,1,none⟩ (.int .i64 0)).setCell ⟨w.heap.size,2,none⟩ (.bool false)).setCell ⟨w.heap.size,3,none⟩ (.slice none 0 0)).setCell ⟨w.heap.size,4,none⟩ (.slice none 0 0))=wf at *
  refine bodyPost_ret (v:=.tuple #[.agg #[.int .u8 0,.int .i64 0,.bool false,.slice none 0 0,.slice none 0 0],.bool false]) (by simp [results,Tryz.results47,go_sem,q0,q1,q2,q3,q4];try rfl) rfl ?_
  exact ⟨_,_,_,_,_,hbf,.inr ⟨rfl,rfl,⟨_,_,_,rfl⟩,⟨_,_,_,rfl⟩⟩⟩
 | w0 :: rs,HX,HM,hl,hcap =>
  obtain ⟨b,o,rfl,hc⟩:=HX.out.at (by simp)
  have c0:=hc 0 w0 rfl
  simp only [Nat.add_zero] at c0
  have hbne:¬ b=w.heap.size+1:=by have:=World.block_lt_of_cell? w _ c0;simp at this;omega
  have hbne2:¬ w.heap.size+1=b:=fun e=>hbne e.symm
  obtain ⟨n,hn⟩:∃ n,(w0 :: rs).length=n:=⟨_,rfl⟩
  have hn1:rs.length+1=n:=by simpa using hn
  rw [hn] at hl hcap ⊢
  have HN:=qh hn1
  have hn0:(0:Int)<(n:Int):=by omega
  have hl2:(n:Int)≤1000000:=by omega
  have hlc:(n:Int)≤(c:Int):=by omega
  have hn00:((n:Int) == 0)=false:=by rw [beq_eq_false_iff_ne];omega
  have hnn:(decide (n=0))=false:=by simp;omega
  clear hn hn1
  by_cases hw:w0.length=1
  ·obtain ⟨l,rfl⟩:∃ l,w0=[l]:=List.length_eq_one_iff.1 hw
   have C0:=qh c0
   clear c0
   by_cases hlm:l ∈ letters
   ·have HLM:=qh hlm
    clear hlm
    go_enter Tryz.func47,Tryz.ntmps47
    go_upto_region 2 with fail
    refine wp_letter (fun w1=>CS w [.int .u8 0,.int .i64 0,.bool false,.slice none 0 0,.slice none 0 0] w1) ⟨(Blk.made _ 47 _ _ _ rfl rfl).alloc _,Blk.made _ 47 _ _ _ (by simp) rfl,((Below.refl _ _).alloc ql _).alloc (by simp) _⟩ ?_
    rintro w1 hs1
    have S1:=qh hs1
    clear hs1
    have c0:=(S1.out.bel.cell (World.block_lt_of_cell? w _ C0.out)).trans C0.out
    go_wp2_with fail
    refine (str_letter _ l (HG.out.below S1.out.bel ql)).mono ?_
    rintro e w2 ⟨rfl,hb2⟩
    have S2:=qh (S1.out.below hb2)
    clear hb2 c0
    have c0:=(S2.out.bel.cell (World.block_lt_of_cell? w _ C0.out)).trans C0.out
    rw [decide_eq_true HLM.out]
    obtain ⟨k0,k1,k2,k3,k4,f0,f1,f2,f3,f4⟩:=S2.out.cnd.cf5
    obtain ⟨r0,r1,r2,r3,r4,g0,g1,g2,g3,g4⟩:=S2.out.res.cf5
    have S3:=qh (S2.out.put 0 (.int .u8 (l.toNat:Int)))
    simp only [qqq0] at S3
    have hcells:Hid (∀ j x,rs[j]?=some x→w.cell? ⟨b,o+1+j,none⟩=some (.string ⟨x.toArray⟩)):=fun j x hx=>by rw [Nat.add_assoc,Nat.add_comm 1 j];exact hc (j+1) x (by simpa using hx)
    clear hc
    match rs,HX,HM,HN,hcells with
    | [],HX,HM,HN,hcells =>
     obtain rfl:n=1:=by have:=HN.out;simp at this;omega
     by_cases hc1:c=1
     ·subst hc1
      go_upto_region 6 with fail
      refine wp_letter (fun w3=>CS w [.int .u8 (l.toNat:Int),.int .i64 0,.bool false,.slice none 0 0,.slice none 0 0] w3) S3.out ?_
      clear k0 k1 k2 k3 k4 f0 f1 f2 f3 f4 r0 r1 r2 r3 r4 g0 g1 g2 g3 g4 c0
      rintro w3 hs
      have S4:=qh hs
      clear hs
      obtain ⟨k0,k1,k2,k3,k4,f0,f1,f2,f3,f4⟩:=S4.out.cnd.cf5
      obtain ⟨r0,r1,r2,r3,r4,g0,g1,g2,g3,g4⟩:=S4.out.res.cf5
      go_wp2_with fail
      obtain ⟨hf,hbf⟩:=CS.fin (a:=.int .u8 (l.toNat:Int)) (b:=.int .i64 0) (c:=.bool false) (d:=.slice none 0 0) (e:=.slice none 0 0) S4.out
      obtain ⟨q0,q1,q2,q3,q4⟩:=hf.c5
      generalize (((((w3.setCell ⟨w.heap.size,0,none⟩ (.int .u8 (l.toNat:Int))).setCell ⟨w.heap.size,1,none⟩ (.int .i64 0)).setCell ⟨w.heap.size,2,none⟩ (.bool false)).setCell ⟨w.heap.size,3,none⟩ (.slice none 0 0)).setCell ⟨w.heap.size,4,none⟩ (.slice none 0 0))=wf at *
      refine bodyPost_ret (v:=.tuple #[.agg #[.int .u8 (l.toNat:Int),.int .i64 0,.bool false,.slice none 0 0,.slice none 0 0],.bool false]) (by simp [results,Tryz.results47,go_sem,q0,q1,q2,q3,q4];try rfl) rfl ?_
      exact ⟨_,_,_,_,_,hbf,.inr ⟨by simp [cond?,HLM.out],rfl,⟨_,_,_,rfl⟩,⟨_,_,_,rfl⟩⟩⟩
     ·have hc2:(1:Int)<(c:Int):=by omega
      have hc3:¬ (c:Int)=1:=by omega
      go_upto_region 6 with fail
      refine wp_letter (fun w3=>CS w [.int .u8 (l.toNat:Int),.int .i64 0,.bool false,.slice none 0 0,.slice none 0 0] w3) S3.out ?_
      clear k0 k1 k2 k3 k4 f0 f1 f2 f3 f4 r0 r1 r2 r3 r4 g0 g1 g2 g3 g4 c0
      rintro w3 hs
      have S4:=qh hs
      clear hs
      obtain ⟨k0,k1,k2,k3,k4,f0,f1,f2,f3,f4⟩:=S4.out.cnd.cf5
      obtain ⟨r0,r1,r2,r3,r4,g0,g1,g2,g3,g4⟩:=S4.out.res.cf5
      go_wp2_with fail
      obtain ⟨hf,hbf⟩:=CS.fin (a:=.int .u8 (l.toNat:Int)) (b:=.int .i64 0) (c:=.bool false) (d:=.slice none 0 0) (e:=.slice none 0 0) S4.out
      obtain ⟨q0,q1,q2,q3,q4⟩:=hf.c5
      generalize (((((w3.setCell ⟨w.heap.size,0,none⟩ (.int .u8 (l.toNat:Int))).setCell ⟨w.heap.size,1,none⟩ (.int .i64 0)).setCell ⟨w.heap.size,2,none⟩ (.bool false)).setCell ⟨w.heap.size,3,none⟩ (.slice none 0 0)).setCell ⟨w.heap.size,4,none⟩ (.slice none 0 0))=wf at *
      refine bodyPost_ret (v:=.tuple #[.agg #[.int .u8 (l.toNat:Int),.int .i64 0,.bool false,.slice none 0 0,.slice none 0 0],.bool false]) (by simp [results,Tryz.results47,go_sem,q0,q1,q2,q3,q4];try rfl) rfl ?_
      exact ⟨_,_,_,_,_,hbf,.inr ⟨by simp [cond?,HLM.out],rfl,⟨_,_,_,rfl⟩,⟨_,_,_,rfl⟩⟩⟩
    | [x],HX,HM,HN,hcells =>
     obtain rfl:n=2:=by have:=HN.out;simp at this;omega
     have hc2:(2:Int)≤(c:Int):=by omega
     go_upto_region 6 with fail
     refine wp_letter (fun w3=>CS w [.int .u8 (l.toNat:Int),.int .i64 0,.bool false,.slice none 0 0,.slice none 0 0] w3) S3.out ?_
     clear k0 k1 k2 k3 k4 f0 f1 f2 f3 f4 r0 r1 r2 r3 r4 g0 g1 g2 g3 g4 c0
     rintro w3 hs
     have S4:=qh hs
     clear hs
     generalize hc1:c - 1=c1
     generalize ho1:o+1=o1
     obtain ⟨k0,k1,k2,k3,k4,f0,f1,f2,f3,f4⟩:=S4.out.cnd.cf5
     obtain ⟨r0,r1,r2,r3,r4,g0,g1,g2,g3,g4⟩:=S4.out.res.cf5
     go_wp2_with fail
     obtain ⟨hf,hbf⟩:=CS.fin (a:=.int .u8 (l.toNat:Int)) (b:=.int .i64 0) (c:=.bool false) (d:=.slice none 0 0) (e:=.slice none 0 0) S4.out
     obtain ⟨q0,q1,q2,q3,q4⟩:=hf.c5
     generalize (((((w3.setCell ⟨w.heap.size,0,none⟩ (.int .u8 (l.toNat:Int))).setCell ⟨w.heap.size,1,none⟩ (.int .i64 0)).setCell ⟨w.heap.size,2,none⟩ (.bool false)).setCell ⟨w.heap.size,3,none⟩ (.slice none 0 0)).setCell ⟨w.heap.size,4,none⟩ (.slice none 0 0))=wf at *
     refine bodyPost_ret (v:=.tuple #[.agg #[.int .u8 (l.toNat:Int),.int .i64 0,.bool false,.slice none 0 0,.slice none 0 0],.bool false]) (by simp [results,Tryz.results47,go_sem,q0,q1,q2,q3,q4];try rfl) rfl ?_
     exact ⟨_,_,_,_,_,hbf,.inr ⟨by simp [cond?,HLM.out],rfl,⟨_,_,_,rfl⟩,⟨_,_,_,rfl⟩⟩⟩
    | p :: x :: r',HX,HM,HN,hcells =>
     have hn3:3≤n:=by have:=HN.out;simp at this;omega
     have hn3I:(3:Int)≤(n:Int):=by omega
     go_upto_region 6 with fail
     refine wp_letter (fun w3=>CS w [.int .u8 (l.toNat:Int),.int .i64 0,.bool false,.slice none 0 0,.slice none 0 0] w3) S3.out ?_
     clear k0 k1 k2 k3 k4 f0 f1 f2 f3 f4 r0 r1 r2 r3 r4 g0 g1 g2 g3 g4 c0
     rintro w3 hs
     have S4:=qh hs
     clear hs
     obtain ⟨n1,hn1⟩:∃ n1,n - 1=n1:=⟨_,rfl⟩
     obtain ⟨c1,hc1⟩:∃ c1,c - 1=c1:=⟨_,rfl⟩
     obtain ⟨o1,ho1⟩:∃ o1,o+1=o1:=⟨_,rfl⟩
     rw [hn1,hc1,ho1]
     rw [ho1] at hcells
     have HN1:Hid (r'.length+2=n1):=by have:=HN.out;simp at this;show _=_;omega
     have hlt1:(1:Int)<(n1:Int):=by omega
     have hcc:(n1:Int)≤(c1:Int):=by omega
     have hn2I:(n1:Int)≤1000000:=by omega
     have hb4:=S4.out.bel
     have q0:=(hb4.cell (World.block_lt_of_cell? w _ (hcells.out 0 p rfl))).trans (hcells.out 0 p rfl)
     have q1:=(hb4.cell (World.block_lt_of_cell? w _ (hcells.out 1 x rfl))).trans (hcells.out 1 x rfl)
     simp only [Nat.add_zero] at q0
     have hxl:x.length≤1000000:=HM.out x (by simp)
     clear hn1 hc1 ho1 hb4
     by_cases hp:p=[37]
     ·subst hp
      cases hnx:num? x with
      | none =>
       have HNX:=qh hnx
       clear hnx
       obtain ⟨k0,k1,k2,k3,k4,f0,f1,f2,f3,f4⟩:=S4.out.cnd.cf5
       obtain ⟨r0,r1,r2,r3,r4,g0,g1,g2,g3,g4⟩:=S4.out.res.cf5
       go_wp2_with fail
       refine (rule_number_none _ x hxl HNX.out).mono ?_
       rintro e w4 ⟨rfl,hb4⟩
       have S5:=qh (S4.out.below hb4)
       clear hb4 q0 q1 k0 k1 k2 k3 k4 f0 f1 f2 f3 f4 r0 r1 r2 r3 r4 g0 g1 g2 g3 g4
       obtain ⟨k0,k1,k2,k3,k4,f0,f1,f2,f3,f4⟩:=S5.out.cnd.cf5
       obtain ⟨r0,r1,r2,r3,r4,g0,g1,g2,g3,g4⟩:=S5.out.res.cf5
       try dsimp only
       go_wp2_with fail
       obtain ⟨hf,hbf⟩:=CS.fin (a:=.int .u8 (l.toNat:Int)) (b:=.int .i64 0) (c:=.bool false) (d:=.slice none 0 0) (e:=.slice none 0 0) S5.out
       obtain ⟨q0,q1,q2,q3,q4⟩:=hf.c5
       generalize (((((w4.setCell ⟨w.heap.size,0,none⟩ (.int .u8 (l.toNat:Int))).setCell ⟨w.heap.size,1,none⟩ (.int .i64 0)).setCell ⟨w.heap.size,2,none⟩ (.bool false)).setCell ⟨w.heap.size,3,none⟩ (.slice none 0 0)).setCell ⟨w.heap.size,4,none⟩ (.slice none 0 0))=wf at *
       refine bodyPost_ret (v:=.tuple #[.agg #[.int .u8 (l.toNat:Int),.int .i64 0,.bool false,.slice none 0 0,.slice none 0 0],.bool false]) (by simp [results,Tryz.results47,go_sem,q0,q1,q2,q3,q4];try rfl) rfl ?_
       exact ⟨_,_,_,_,_,hbf,.inr ⟨by simp [cond?,HLM.out,HNX.out],rfl,⟨_,_,_,rfl⟩,⟨_,_,_,rfl⟩⟩⟩
      | some m =>
       have hmb:=(num?_some hnx).2
       have HNX:=qh hnx
       clear hnx
       obtain ⟨k0,k1,k2,k3,k4,f0,f1,f2,f3,f4⟩:=S4.out.cnd.cf5
       obtain ⟨r0,r1,r2,r3,r4,g0,g1,g2,g3,g4⟩:=S4.out.res.cf5
       go_wp2_with fail
       refine (rule_number_some _ x m hxl HNX.out).mono ?_
       rintro e w4 ⟨rfl,hb4⟩
       have S5:=qh (S4.out.below hb4)
       clear hb4 q0 q1 k0 k1 k2 k3 k4 f0 f1 f2 f3 f4 r0 r1 r2 r3 r4 g0 g1 g2 g3 g4
       obtain ⟨k0,k1,k2,k3,k4,f0,f1,f2,f3,f4⟩:=S5.out.cnd.cf5
       obtain ⟨r0,r1,r2,r3,r4,g0,g1,g2,g3,g4⟩:=S5.out.res.cf5
       try dsimp only
       by_cases hm0:m=0
       ·subst hm0
        go_wp2_with fail
        obtain ⟨hf,hbf⟩:=CS.fin (a:=.int .u8 (l.toNat:Int)) (b:=.int .i64 0) (c:=.bool false) (d:=.slice none 0 0) (e:=.slice none 0 0) S5.out
        obtain ⟨q0,q1,q2,q3,q4⟩:=hf.c5
        generalize (((((w4.setCell ⟨w.heap.size,0,none⟩ (.int .u8 (l.toNat:Int))).setCell ⟨w.heap.size,1,none⟩ (.int .i64 0)).setCell ⟨w.heap.size,2,none⟩ (.bool false)).setCell ⟨w.heap.size,3,none⟩ (.slice none 0 0)).setCell ⟨w.heap.size,4,none⟩ (.slice none 0 0))=wf at *
        refine bodyPost_ret (v:=.tuple #[.agg #[.int .u8 (l.toNat:Int),.int .i64 0,.bool false,.slice none 0 0,.slice none 0 0],.bool false]) (by simp [results,Tryz.results47,go_sem,q0,q1,q2,q3,q4];try rfl) rfl ?_
        exact ⟨_,_,_,_,_,hbf,.inr ⟨by simp [cond?,HLM.out,HNX.out],rfl,⟨_,_,_,rfl⟩,⟨_,_,_,rfl⟩⟩⟩
       ·have HM0:=qh hm0
        have hmI:((m:Int) == 0)=false:=by rw [beq_eq_false_iff_ne];omega
        have hmI2:¬ (m:Int)=0:=by omega
        clear hm0
        have S6:=qh (S5.out.put 1 (.int .i64 (m:Int)))
        simp only [qqq0,qqq1] at S6
        by_cases hc2:c1=2
        ·have hr':r'=[]:=List.eq_nil_of_length_eq_zero (by have:=HN1.out;omega)
         subst hr'
         obtain rfl:n1=2:=by have:=HN1.out;simp at this;omega
         subst hc2
         go_upto_region 12 with fail
         refine wp_letter (fun w5=>CS w [.int .u8 (l.toNat:Int),.int .i64 (m:Int),.bool false,.slice none 0 0,.slice none 0 0] w5) S6.out ?_
         clear k0 k1 k2 k3 k4 f0 f1 f2 f3 f4 r0 r1 r2 r3 r4 g0 g1 g2 g3 g4
         rintro w5 hs
         have S7:=qh hs
         clear hs
         obtain ⟨k0,k1,k2,k3,k4,f0,f1,f2,f3,f4⟩:=S7.out.cnd.cf5
         obtain ⟨r0,r1,r2,r3,r4,g0,g1,g2,g3,g4⟩:=S7.out.res.cf5
         go_wp2_with fail
         obtain ⟨hf,hbf⟩:=CS.fin (a:=.int .u8 (l.toNat:Int)) (b:=.int .i64 (m:Int)) (c:=.bool false) (d:=.slice none 0 0) (e:=.slice none 0 0) S7.out
         obtain ⟨q0,q1,q2,q3,q4⟩:=hf.c5
         generalize (((((w5.setCell ⟨w.heap.size,0,none⟩ (.int .u8 (l.toNat:Int))).setCell ⟨w.heap.size,1,none⟩ (.int .i64 (m:Int))).setCell ⟨w.heap.size,2,none⟩ (.bool false)).setCell ⟨w.heap.size,3,none⟩ (.slice none 0 0)).setCell ⟨w.heap.size,4,none⟩ (.slice none 0 0))=wf at *
         refine bodyPost_ret (v:=.tuple #[.agg #[.int .u8 (l.toNat:Int),.int .i64 (m:Int),.bool false,.slice none 0 0,.slice none 0 0],.bool false]) (by simp [results,Tryz.results47,go_sem,q0,q1,q2,q3,q4];try rfl) rfl ?_
         exact ⟨_,_,_,_,_,hbf,.inr ⟨by simp [cond?,HLM.out,HNX.out,HM0.out,tail?],rfl,⟨_,_,_,rfl⟩,⟨_,_,_,rfl⟩⟩⟩
        ·have hc3:(2:Int)<(c1:Int):=by omega
         go_upto_region 12 with fail
         refine wp_letter (fun w5=>CS w [.int .u8 (l.toNat:Int),.int .i64 (m:Int),.bool false,.slice none 0 0,.slice none 0 0] w5) S6.out ?_
         clear k0 k1 k2 k3 k4 f0 f1 f2 f3 f4 r0 r1 r2 r3 r4 g0 g1 g2 g3 g4
         rintro w5 hs
         have S7:=qh hs
         clear hs
         obtain ⟨n2,hn2⟩:∃ n2,n1 - 2=n2:=⟨_,rfl⟩
         obtain ⟨c2,hc2'⟩:∃ c2,c1 - 2=c2:=⟨_,rfl⟩
         obtain ⟨o2,ho2⟩:∃ o2,o1+2=o2:=⟨_,rfl⟩
         rw [hn2,hc2',ho2]
         have HN2:Hid (r'.length=n2):=by have:=HN1.out;show _=_;omega
         have hcc2:(n2:Int)≤(c2:Int):=by omega
         have hn2J:(n2:Int)≤1000000:=by omega
         have hcell2:Hid (∀ j t,r'[j]?=some t→w5.cell? ⟨b,o2+j,none⟩=some (.string ⟨t.toArray⟩)):=fun j t ht=>by have h:=hcells.out (j+2) t (by simpa using ht);rw [← ho2,Nat.add_assoc,Nat.add_comm 2 j];exact (S7.out.bel.cell (World.block_lt_of_cell? w _ h)).trans h
         have HM2:Hid (∀ t ∈ r',t.length≤1000000):=fun t ht=>HM.out t (by simp [ht])
         have HCD:Hid (cond? ([l] :: [37] :: x :: r')=tail? l.toNat m r'):=by show _=_;simp [cond?,HLM.out,HNX.out,HM0.out]
         clear hn2 hc2' ho2 hcc
         match r',hcell2,HM2,HN2,HCD with
         | [],hcell2,HM2,HN2,HCD =>
          obtain rfl:n2=0:=HN2.out.symm
          obtain ⟨k0,k1,k2,k3,k4,f0,f1,f2,f3,f4⟩:=S7.out.cnd.cf5
          obtain ⟨r0,r1,r2,r3,r4,g0,g1,g2,g3,g4⟩:=S7.out.res.cf5
          go_wp2_with fail
          obtain ⟨hf,hbf⟩:=CS.fin (a:=.int .u8 (l.toNat:Int)) (b:=.int .i64 (m:Int)) (c:=.bool false) (d:=.slice none 0 0) (e:=.slice none 0 0) S7.out
          obtain ⟨q0,q1,q2,q3,q4⟩:=hf.c5
          generalize (((((w5.setCell ⟨w.heap.size,0,none⟩ (.int .u8 (l.toNat:Int))).setCell ⟨w.heap.size,1,none⟩ (.int .i64 (m:Int))).setCell ⟨w.heap.size,2,none⟩ (.bool false)).setCell ⟨w.heap.size,3,none⟩ (.slice none 0 0)).setCell ⟨w.heap.size,4,none⟩ (.slice none 0 0))=wf at *
          refine bodyPost_ret (v:=.tuple #[.agg #[.int .u8 (l.toNat:Int),.int .i64 (m:Int),.bool false,.slice none 0 0,.slice none 0 0],.bool false]) (by simp [results,Tryz.results47,go_sem,q0,q1,q2,q3,q4];try rfl) rfl ?_
          exact ⟨_,_,_,_,_,hbf,.inr ⟨HCD.out,rfl,⟨_,_,_,rfl⟩,⟨_,_,_,rfl⟩⟩⟩
         | [_],hcell2,HM2,HN2,HCD =>
          obtain rfl:n2=1:=HN2.out.symm
          obtain ⟨k0,k1,k2,k3,k4,f0,f1,f2,f3,f4⟩:=S7.out.cnd.cf5
          obtain ⟨r0,r1,r2,r3,r4,g0,g1,g2,g3,g4⟩:=S7.out.res.cf5
          go_wp2_with fail
          obtain ⟨hf,hbf⟩:=CS.fin (a:=.int .u8 (l.toNat:Int)) (b:=.int .i64 (m:Int)) (c:=.bool false) (d:=.slice none 0 0) (e:=.slice none 0 0) S7.out
          obtain ⟨q0,q1,q2,q3,q4⟩:=hf.c5
          generalize (((((w5.setCell ⟨w.heap.size,0,none⟩ (.int .u8 (l.toNat:Int))).setCell ⟨w.heap.size,1,none⟩ (.int .i64 (m:Int))).setCell ⟨w.heap.size,2,none⟩ (.bool false)).setCell ⟨w.heap.size,3,none⟩ (.slice none 0 0)).setCell ⟨w.heap.size,4,none⟩ (.slice none 0 0))=wf at *
          refine bodyPost_ret (v:=.tuple #[.agg #[.int .u8 (l.toNat:Int),.int .i64 (m:Int),.bool false,.slice none 0 0,.slice none 0 0],.bool false]) (by simp [results,Tryz.results47,go_sem,q0,q1,q2,q3,q4];try rfl) rfl ?_
          exact ⟨_,_,_,_,_,hbf,.inr ⟨HCD.out,rfl,⟨_,_,_,rfl⟩,⟨_,_,_,rfl⟩⟩⟩
         | _ :: _ :: _ :: _,hcell2,HM2,HN2,HCD =>
          have h3:((n2:Int) == 2)=false:=by rw [beq_eq_false_iff_ne];have:=HN2.out;simp at this;omega
          have h4:¬ (n2:Int)=2:=by have:=HN2.out;simp at this;omega
          have h5:((n2:Int) != 2)=true:=by simp only [bne,h3];rfl
          obtain ⟨k0,k1,k2,k3,k4,f0,f1,f2,f3,f4⟩:=S7.out.cnd.cf5
          obtain ⟨r0,r1,r2,r3,r4,g0,g1,g2,g3,g4⟩:=S7.out.res.cf5
          go_wp2_with fail
          obtain ⟨hf,hbf⟩:=CS.fin (a:=.int .u8 (l.toNat:Int)) (b:=.int .i64 (m:Int)) (c:=.bool false) (d:=.slice none 0 0) (e:=.slice none 0 0) S7.out
          obtain ⟨q0,q1,q2,q3,q4⟩:=hf.c5
          generalize (((((w5.setCell ⟨w.heap.size,0,none⟩ (.int .u8 (l.toNat:Int))).setCell ⟨w.heap.size,1,none⟩ (.int .i64 (m:Int))).setCell ⟨w.heap.size,2,none⟩ (.bool false)).setCell ⟨w.heap.size,3,none⟩ (.slice none 0 0)).setCell ⟨w.heap.size,4,none⟩ (.slice none 0 0))=wf at *
          refine bodyPost_ret (v:=.tuple #[.agg #[.int .u8 (l.toNat:Int),.int .i64 (m:Int),.bool false,.slice none 0 0,.slice none 0 0],.bool false]) (by simp [results,Tryz.results47,go_sem,q0,q1,q2,q3,q4];try rfl) rfl ?_
          exact ⟨_,_,_,_,_,hbf,.inr ⟨HCD.out,rfl,⟨_,_,_,rfl⟩,⟨_,_,_,rfl⟩⟩⟩
         | [q,t],hcell2,HM2,HN2,HCD =>
          obtain rfl:n2=2:=HN2.out.symm
          have e0:=hcell2.out 0 q rfl
          have e1:=hcell2.out 1 t rfl
          simp only [Nat.add_zero] at e0
          have htl:t.length≤1000000:=HM2.out t (by simp)
          by_cases hqfalse:q=[61]
          ·subst hqfalse
           obtain ⟨k0,k1,k2,k3,k4,f0,f1,f2,f3,f4⟩:=S7.out.cnd.cf5
           obtain ⟨r0,r1,r2,r3,r4,g0,g1,g2,g3,g4⟩:=S7.out.res.cf5
           go_wp2_with fail
           have SA:=qh (S7.out.put 2 (.bool false))
           simp only [qqq0,qqq1] at SA
           refine calls_at (fun wy=>CS w [.int .u8 (l.toNat:Int),.int .i64 (m:Int),.bool false,.slice none 0 0,.slice none 0 0] wy) SA.out ?_
           clear e0 e1 k0 k1 k2 k3 k4 f0 f1 f2 f3 f4 r0 r1 r2 r3 r4 g0 g1 g2 g3 g4
           rintro wy hs
           have SB:=qh hs
           clear hs
           refine (rule_list w wy (w.heap.size+1) (l.toNat:Int) (m:Int) false ⟨t.toArray⟩ HG.out SB.out.bel (by omega) SB.out.cnd (by rw [Lib.size_eq];simpa using htl)).mono ?_
           rintro e wz ⟨vF,vT,hbz,hgz,⟨FA,fn,fc,rfl⟩,⟨TA,tn,tc,rfl⟩,hz⟩
           have SC:Hid (CS w [.int .u8 (l.toNat:Int),.int .i64 (m:Int),.bool false,.slice FA fn fc,.slice TA tn tc] wz):=⟨SB.out.res.kept hgz (by simp),hbz,below_grown SB.out.bel hgz SB.out.bel.size (by intro j hj;cases hj;omega)⟩
           have hwz:=SB.out.cnd.lt
           rcases hz with ⟨LL,hLL,rfl,hiF,hiT⟩|⟨hLL,rfl⟩
           ·have HLL:=qh hLL
            have HIF:=qh (((((hiF.set (g:=w.heap.size) (by omega) 0 (.int .u8 (l.toNat:Int))).set (g:=w.heap.size) (by omega) 1 (.int .i64 (m:Int))).set (g:=w.heap.size) (by omega) 2 (.bool false)).set (g:=w.heap.size) (by omega) 3 (.slice FA fn fc)).set (g:=w.heap.size) (by omega) 4 (.slice TA tn tc))
            have HIT:=qh (((((hiT.set (g:=w.heap.size) (by omega) 0 (.int .u8 (l.toNat:Int))).set (g:=w.heap.size) (by omega) 1 (.int .i64 (m:Int))).set (g:=w.heap.size) (by omega) 2 (.bool false)).set (g:=w.heap.size) (by omega) 3 (.slice FA fn fc)).set (g:=w.heap.size) (by omega) 4 (.slice TA tn tc))
            clear hLL hiF hiT hbz hgz
            try dsimp only
            obtain ⟨k0,k1,k2,k3,k4,f0,f1,f2,f3,f4⟩:=SC.out.cnd.cf5
            obtain ⟨r0,r1,r2,r3,r4,g0,g1,g2,g3,g4⟩:=SC.out.res.cf5
            go_wp2_with fail
            obtain ⟨hf,hbf⟩:=CS.fin (a:=.int .u8 (l.toNat:Int)) (b:=.int .i64 (m:Int)) (c:=.bool false) (d:=.slice FA fn fc) (e:=.slice TA tn tc) SC.out
            obtain ⟨q0,q1,q2,q3,q4⟩:=hf.c5
            generalize (((((wz.setCell ⟨w.heap.size,0,none⟩ (.int .u8 (l.toNat:Int))).setCell ⟨w.heap.size,1,none⟩ (.int .i64 (m:Int))).setCell ⟨w.heap.size,2,none⟩ (.bool false)).setCell ⟨w.heap.size,3,none⟩ (.slice FA fn fc)).setCell ⟨w.heap.size,4,none⟩ (.slice TA tn tc))=wf at *
            refine bodyPost_ret (v:=.tuple #[.agg #[.int .u8 (l.toNat:Int),.int .i64 (m:Int),.bool false,.slice FA fn fc,.slice TA tn tc],.bool true]) (by simp [results,Tryz.results47,go_sem,q0,q1,q2,q3,q4];try rfl) rfl ?_
            exact ⟨_,_,_,_,_,hbf,.inl ⟨mkC l.toNat m false LL,by rw [HCD.out];simp [tail?,show list? t=some LL from HLL.out],rfl,⟨_,_,_,rfl⟩,⟨_,_,_,rfl⟩,rfl,rfl,rfl,HIF.out.mono SB.out.bel.size,HIT.out.mono SB.out.bel.size⟩⟩
           ·have HLL:=qh hLL
            clear hLL hbz hgz
            try dsimp only
            obtain ⟨k0,k1,k2,k3,k4,f0,f1,f2,f3,f4⟩:=SC.out.cnd.cf5
            obtain ⟨r0,r1,r2,r3,r4,g0,g1,g2,g3,g4⟩:=SC.out.res.cf5
            go_wp2_with fail
            obtain ⟨hf,hbf⟩:=CS.fin (a:=.int .u8 (l.toNat:Int)) (b:=.int .i64 (m:Int)) (c:=.bool false) (d:=.slice FA fn fc) (e:=.slice TA tn tc) SC.out
            obtain ⟨q0,q1,q2,q3,q4⟩:=hf.c5
            generalize (((((wz.setCell ⟨w.heap.size,0,none⟩ (.int .u8 (l.toNat:Int))).setCell ⟨w.heap.size,1,none⟩ (.int .i64 (m:Int))).setCell ⟨w.heap.size,2,none⟩ (.bool false)).setCell ⟨w.heap.size,3,none⟩ (.slice FA fn fc)).setCell ⟨w.heap.size,4,none⟩ (.slice TA tn tc))=wf at *
            refine bodyPost_ret (v:=.tuple #[.agg #[.int .u8 (l.toNat:Int),.int .i64 (m:Int),.bool false,.slice FA fn fc,.slice TA tn tc],.bool false]) (by simp [results,Tryz.results47,go_sem,q0,q1,q2,q3,q4];try rfl) rfl ?_
            exact ⟨_,_,_,_,_,hbf,.inr ⟨by rw [HCD.out];simp [tail?,show list? t=none from HLL.out],rfl,⟨_,_,_,rfl⟩,⟨_,_,_,rfl⟩⟩⟩
          have ffalse1:(q == [61])=false:=by rw [beq_eq_false_iff_ne];exact hqfalse
          have ffalse2:(q != [61])=true:=by simp only [bne,ffalse1];rfl
          have HQfalse:=qh hqfalse
          clear hqfalse
          by_cases hqtrue:q=[33,61]
          ·subst hqtrue
           obtain ⟨k0,k1,k2,k3,k4,f0,f1,f2,f3,f4⟩:=S7.out.cnd.cf5
           obtain ⟨r0,r1,r2,r3,r4,g0,g1,g2,g3,g4⟩:=S7.out.res.cf5
           go_wp2_with fail
           have SA:=qh (S7.out.put 2 (.bool true))
           simp only [qqq0,qqq1] at SA
           refine calls_at (fun wy=>CS w [.int .u8 (l.toNat:Int),.int .i64 (m:Int),.bool true,.slice none 0 0,.slice none 0 0] wy) SA.out ?_
           clear e0 e1 k0 k1 k2 k3 k4 f0 f1 f2 f3 f4 r0 r1 r2 r3 r4 g0 g1 g2 g3 g4
           rintro wy hs
           have SB:=qh hs
           clear hs
           refine (rule_list w wy (w.heap.size+1) (l.toNat:Int) (m:Int) true ⟨t.toArray⟩ HG.out SB.out.bel (by omega) SB.out.cnd (by rw [Lib.size_eq];simpa using htl)).mono ?_
           rintro e wz ⟨vF,vT,hbz,hgz,⟨FA,fn,fc,rfl⟩,⟨TA,tn,tc,rfl⟩,hz⟩
           have SC:Hid (CS w [.int .u8 (l.toNat:Int),.int .i64 (m:Int),.bool true,.slice FA fn fc,.slice TA tn tc] wz):=⟨SB.out.res.kept hgz (by simp),hbz,below_grown SB.out.bel hgz SB.out.bel.size (by intro j hj;cases hj;omega)⟩
           have hwz:=SB.out.cnd.lt
           rcases hz with ⟨LL,hLL,rfl,hiF,hiT⟩|⟨hLL,rfl⟩
           ·have HLL:=qh hLL
            have HIF:=qh (((((hiF.set (g:=w.heap.size) (by omega) 0 (.int .u8 (l.toNat:Int))).set (g:=w.heap.size) (by omega) 1 (.int .i64 (m:Int))).set (g:=w.heap.size) (by omega) 2 (.bool true)).set (g:=w.heap.size) (by omega) 3 (.slice FA fn fc)).set (g:=w.heap.size) (by omega) 4 (.slice TA tn tc))
            have HIT:=qh (((((hiT.set (g:=w.heap.size) (by omega) 0 (.int .u8 (l.toNat:Int))).set (g:=w.heap.size) (by omega) 1 (.int .i64 (m:Int))).set (g:=w.heap.size) (by omega) 2 (.bool true)).set (g:=w.heap.size) (by omega) 3 (.slice FA fn fc)).set (g:=w.heap.size) (by omega) 4 (.slice TA tn tc))
            clear hLL hiF hiT hbz hgz
            try dsimp only
            obtain ⟨k0,k1,k2,k3,k4,f0,f1,f2,f3,f4⟩:=SC.out.cnd.cf5
            obtain ⟨r0,r1,r2,r3,r4,g0,g1,g2,g3,g4⟩:=SC.out.res.cf5
            go_wp2_with fail
            obtain ⟨hf,hbf⟩:=CS.fin (a:=.int .u8 (l.toNat:Int)) (b:=.int .i64 (m:Int)) (c:=.bool true) (d:=.slice FA fn fc) (e:=.slice TA tn tc) SC.out
            obtain ⟨q0,q1,q2,q3,q4⟩:=hf.c5
            generalize (((((wz.setCell ⟨w.heap.size,0,none⟩ (.int .u8 (l.toNat:Int))).setCell ⟨w.heap.size,1,none⟩ (.int .i64 (m:Int))).setCell ⟨w.heap.size,2,none⟩ (.bool true)).setCell ⟨w.heap.size,3,none⟩ (.slice FA fn fc)).setCell ⟨w.heap.size,4,none⟩ (.slice TA tn tc))=wf at *
            refine bodyPost_ret (v:=.tuple #[.agg #[.int .u8 (l.toNat:Int),.int .i64 (m:Int),.bool true,.slice FA fn fc,.slice TA tn tc],.bool true]) (by simp [results,Tryz.results47,go_sem,q0,q1,q2,q3,q4];try rfl) rfl ?_
            exact ⟨_,_,_,_,_,hbf,.inl ⟨mkC l.toNat m true LL,by rw [HCD.out];simp [tail?,show list? t=some LL from HLL.out],rfl,⟨_,_,_,rfl⟩,⟨_,_,_,rfl⟩,rfl,rfl,rfl,HIF.out.mono SB.out.bel.size,HIT.out.mono SB.out.bel.size⟩⟩
           ·have HLL:=qh hLL
            clear hLL hbz hgz
            try dsimp only
            obtain ⟨k0,k1,k2,k3,k4,f0,f1,f2,f3,f4⟩:=SC.out.cnd.cf5
            obtain ⟨r0,r1,r2,r3,r4,g0,g1,g2,g3,g4⟩:=SC.out.res.cf5
            go_wp2_with fail
            obtain ⟨hf,hbf⟩:=CS.fin (a:=.int .u8 (l.toNat:Int)) (b:=.int .i64 (m:Int)) (c:=.bool true) (d:=.slice FA fn fc) (e:=.slice TA tn tc) SC.out
            obtain ⟨q0,q1,q2,q3,q4⟩:=hf.c5
            generalize (((((wz.setCell ⟨w.heap.size,0,none⟩ (.int .u8 (l.toNat:Int))).setCell ⟨w.heap.size,1,none⟩ (.int .i64 (m:Int))).setCell ⟨w.heap.size,2,none⟩ (.bool true)).setCell ⟨w.heap.size,3,none⟩ (.slice FA fn fc)).setCell ⟨w.heap.size,4,none⟩ (.slice TA tn tc))=wf at *
            refine bodyPost_ret (v:=.tuple #[.agg #[.int .u8 (l.toNat:Int),.int .i64 (m:Int),.bool true,.slice FA fn fc,.slice TA tn tc],.bool false]) (by simp [results,Tryz.results47,go_sem,q0,q1,q2,q3,q4];try rfl) rfl ?_
            exact ⟨_,_,_,_,_,hbf,.inr ⟨by rw [HCD.out];simp [tail?,show list? t=none from HLL.out],rfl,⟨_,_,_,rfl⟩,⟨_,_,_,rfl⟩⟩⟩
          have ftrue1:(q == [33,61])=false:=by rw [beq_eq_false_iff_ne];exact hqtrue
          have ftrue2:(q != [33,61])=true:=by simp only [bne,ftrue1];rfl
          have HQtrue:=qh hqtrue
          clear hqtrue
          obtain ⟨k0,k1,k2,k3,k4,f0,f1,f2,f3,f4⟩:=S7.out.cnd.cf5
          obtain ⟨r0,r1,r2,r3,r4,g0,g1,g2,g3,g4⟩:=S7.out.res.cf5
          go_wp2_with fail
          obtain ⟨hf,hbf⟩:=CS.fin (a:=.int .u8 (l.toNat:Int)) (b:=.int .i64 (m:Int)) (c:=.bool false) (d:=.slice none 0 0) (e:=.slice none 0 0) S7.out
          obtain ⟨q0,q1,q2,q3,q4⟩:=hf.c5
          generalize (((((w5.setCell ⟨w.heap.size,0,none⟩ (.int .u8 (l.toNat:Int))).setCell ⟨w.heap.size,1,none⟩ (.int .i64 (m:Int))).setCell ⟨w.heap.size,2,none⟩ (.bool false)).setCell ⟨w.heap.size,3,none⟩ (.slice none 0 0)).setCell ⟨w.heap.size,4,none⟩ (.slice none 0 0))=wf at *
          refine bodyPost_ret (v:=.tuple #[.agg #[.int .u8 (l.toNat:Int),.int .i64 (m:Int),.bool false,.slice none 0 0,.slice none 0 0],.bool false]) (by simp [results,Tryz.results47,go_sem,q0,q1,q2,q3,q4];try rfl) rfl ?_
          exact ⟨_,_,_,_,_,hbf,.inr ⟨by rw [HCD.out];simp [tail?,HQfalse.out,HQtrue.out],rfl,⟨_,_,_,rfl⟩,⟨_,_,_,rfl⟩⟩⟩
     ·have hp1:(p == [37])=false:=by rw [beq_eq_false_iff_ne];exact hp
      have HP:=qh hp
      clear hp
      have HCD:Hid (cond? ([l] :: p :: x :: r')=tail? l.toNat 0 (p :: x :: r')):=by show _=_;simp [cond?,HLM.out,HP.out]
      have hcell2:Hid (∀ j t,(p :: x :: r')[j]?=some t→w3.cell? ⟨b,o1+j,none⟩=some (.string ⟨t.toArray⟩)):=fun j t ht=>by have h:=hcells.out j t ht;exact (S4.out.bel.cell (World.block_lt_of_cell? w _ h)).trans h
      have HM2:Hid (∀ t ∈ (p :: x :: r'),t.length≤1000000):=fun t ht=>HM.out t (List.mem_cons_of_mem _ ht)
      have HN2:Hid ((p :: x :: r').length=n1):=by have:=HN1.out;show _=_;simpa using this
      obtain ⟨k0,k1,k2,k3,k4,f0,f1,f2,f3,f4⟩:=S4.out.cnd.cf5
      obtain ⟨r0,r1,r2,r3,r4,g0,g1,g2,g3,g4⟩:=S4.out.res.cf5
      go_upto_region 12 with fail
      clear q0 q1 k0 k1 k2 k3 k4 f0 f1 f2 f3 f4 r0 r1 r2 r3 r4 g0 g1 g2 g3 g4
      obtain ⟨rr,hrr⟩:∃ rr,p :: x :: r'=rr:=⟨_,rfl⟩
      rw [hrr] at hcell2 HM2 HN2
      have HCD2:Hid (cond? ([l] :: p :: x :: r')=tail? l.toNat 0 rr):=by rw [← hrr];exact HCD.out
      clear HCD hcc hrr
      match rr,hcell2,HM2,HN2,HCD2 with
      | [],hcell2,HM2,HN2,HCD2 =>
       exfalso;have:=HN2.out;simp at this;omega
      | [_],hcell2,HM2,HN2,HCD2 =>
       exfalso;have:=HN2.out;simp at this;omega
      | _ :: _ :: _ :: _,hcell2,HM2,HN2,HCD2 =>
       have h3:((n1:Int) == 2)=false:=by rw [beq_eq_false_iff_ne];have:=HN2.out;simp at this;omega
       have h4:¬ (n1:Int)=2:=by have:=HN2.out;simp at this;omega
       have h5:((n1:Int) != 2)=true:=by simp only [bne,h3];rfl
       obtain ⟨k0,k1,k2,k3,k4,f0,f1,f2,f3,f4⟩:=S4.out.cnd.cf5
       obtain ⟨r0,r1,r2,r3,r4,g0,g1,g2,g3,g4⟩:=S4.out.res.cf5
       go_wp2_with fail
       obtain ⟨hf,hbf⟩:=CS.fin (a:=.int .u8 (l.toNat:Int)) (b:=.int .i64 0) (c:=.bool false) (d:=.slice none 0 0) (e:=.slice none 0 0) S4.out
       obtain ⟨q0,q1,q2,q3,q4⟩:=hf.c5
       generalize (((((w3.setCell ⟨w.heap.size,0,none⟩ (.int .u8 (l.toNat:Int))).setCell ⟨w.heap.size,1,none⟩ (.int .i64 0)).setCell ⟨w.heap.size,2,none⟩ (.bool false)).setCell ⟨w.heap.size,3,none⟩ (.slice none 0 0)).setCell ⟨w.heap.size,4,none⟩ (.slice none 0 0))=wf at *
       refine bodyPost_ret (v:=.tuple #[.agg #[.int .u8 (l.toNat:Int),.int .i64 0,.bool false,.slice none 0 0,.slice none 0 0],.bool false]) (by simp [results,Tryz.results47,go_sem,q0,q1,q2,q3,q4];try rfl) rfl ?_
       exact ⟨_,_,_,_,_,hbf,.inr ⟨HCD2.out,rfl,⟨_,_,_,rfl⟩,⟨_,_,_,rfl⟩⟩⟩
      | [q,t],hcell2,HM2,HN2,HCD2 =>
       obtain rfl:n1=2:=HN2.out.symm
       have e0:=hcell2.out 0 q rfl
       have e1:=hcell2.out 1 t rfl
       simp only [Nat.add_zero] at e0
       have htl:t.length≤1000000:=HM2.out t (by simp)
       by_cases hqfalse:q=[61]
       ·subst hqfalse
        obtain ⟨k0,k1,k2,k3,k4,f0,f1,f2,f3,f4⟩:=S4.out.cnd.cf5
        obtain ⟨r0,r1,r2,r3,r4,g0,g1,g2,g3,g4⟩:=S4.out.res.cf5
        go_wp2_with fail
        have SA:=qh (S4.out.put 2 (.bool false))
        simp only [qqq0,qqq1] at SA
        refine calls_at (fun wy=>CS w [.int .u8 (l.toNat:Int),.int .i64 0,.bool false,.slice none 0 0,.slice none 0 0] wy) SA.out ?_
        clear e0 e1 k0 k1 k2 k3 k4 f0 f1 f2 f3 f4 r0 r1 r2 r3 r4 g0 g1 g2 g3 g4
        rintro wy hs
        have SB:=qh hs
        clear hs
        refine (rule_list w wy (w.heap.size+1) (l.toNat:Int) 0 false ⟨t.toArray⟩ HG.out SB.out.bel (by omega) SB.out.cnd (by rw [Lib.size_eq];simpa using htl)).mono ?_
        rintro e wz ⟨vF,vT,hbz,hgz,⟨FA,fn,fc,rfl⟩,⟨TA,tn,tc,rfl⟩,hz⟩
        have SC:Hid (CS w [.int .u8 (l.toNat:Int),.int .i64 0,.bool false,.slice FA fn fc,.slice TA tn tc] wz):=⟨SB.out.res.kept hgz (by simp),hbz,below_grown SB.out.bel hgz SB.out.bel.size (by intro j hj;cases hj;omega)⟩
        have hwz:=SB.out.cnd.lt
        rcases hz with ⟨LL,hLL,rfl,hiF,hiT⟩|⟨hLL,rfl⟩
        ·have HLL:=qh hLL
         have HIF:=qh (((((hiF.set (g:=w.heap.size) (by omega) 0 (.int .u8 (l.toNat:Int))).set (g:=w.heap.size) (by omega) 1 (.int .i64 0)).set (g:=w.heap.size) (by omega) 2 (.bool false)).set (g:=w.heap.size) (by omega) 3 (.slice FA fn fc)).set (g:=w.heap.size) (by omega) 4 (.slice TA tn tc))
         have HIT:=qh (((((hiT.set (g:=w.heap.size) (by omega) 0 (.int .u8 (l.toNat:Int))).set (g:=w.heap.size) (by omega) 1 (.int .i64 0)).set (g:=w.heap.size) (by omega) 2 (.bool false)).set (g:=w.heap.size) (by omega) 3 (.slice FA fn fc)).set (g:=w.heap.size) (by omega) 4 (.slice TA tn tc))
         clear hLL hiF hiT hbz hgz
         try dsimp only
         obtain ⟨k0,k1,k2,k3,k4,f0,f1,f2,f3,f4⟩:=SC.out.cnd.cf5
         obtain ⟨r0,r1,r2,r3,r4,g0,g1,g2,g3,g4⟩:=SC.out.res.cf5
         go_wp2_with fail
         obtain ⟨hf,hbf⟩:=CS.fin (a:=.int .u8 (l.toNat:Int)) (b:=.int .i64 0) (c:=.bool false) (d:=.slice FA fn fc) (e:=.slice TA tn tc) SC.out
         obtain ⟨q0,q1,q2,q3,q4⟩:=hf.c5
         generalize (((((wz.setCell ⟨w.heap.size,0,none⟩ (.int .u8 (l.toNat:Int))).setCell ⟨w.heap.size,1,none⟩ (.int .i64 0)).setCell ⟨w.heap.size,2,none⟩ (.bool false)).setCell ⟨w.heap.size,3,none⟩ (.slice FA fn fc)).setCell ⟨w.heap.size,4,none⟩ (.slice TA tn tc))=wf at *
         refine bodyPost_ret (v:=.tuple #[.agg #[.int .u8 (l.toNat:Int),.int .i64 0,.bool false,.slice FA fn fc,.slice TA tn tc],.bool true]) (by simp [results,Tryz.results47,go_sem,q0,q1,q2,q3,q4];try rfl) rfl ?_
         exact ⟨_,_,_,_,_,hbf,.inl ⟨mkC l.toNat 0 false LL,by rw [HCD2.out];simp [tail?,show list? t=some LL from HLL.out],rfl,⟨_,_,_,rfl⟩,⟨_,_,_,rfl⟩,rfl,rfl,rfl,HIF.out.mono SB.out.bel.size,HIT.out.mono SB.out.bel.size⟩⟩
        ·have HLL:=qh hLL
         clear hLL hbz hgz
         try dsimp only
         obtain ⟨k0,k1,k2,k3,k4,f0,f1,f2,f3,f4⟩:=SC.out.cnd.cf5
         obtain ⟨r0,r1,r2,r3,r4,g0,g1,g2,g3,g4⟩:=SC.out.res.cf5
         go_wp2_with fail
         obtain ⟨hf,hbf⟩:=CS.fin (a:=.int .u8 (l.toNat:Int)) (b:=.int .i64 0) (c:=.bool false) (d:=.slice FA fn fc) (e:=.slice TA tn tc) SC.out
         obtain ⟨q0,q1,q2,q3,q4⟩:=hf.c5
         generalize (((((wz.setCell ⟨w.heap.size,0,none⟩ (.int .u8 (l.toNat:Int))).setCell ⟨w.heap.size,1,none⟩ (.int .i64 0)).setCell ⟨w.heap.size,2,none⟩ (.bool false)).setCell ⟨w.heap.size,3,none⟩ (.slice FA fn fc)).setCell ⟨w.heap.size,4,none⟩ (.slice TA tn tc))=wf at *
         refine bodyPost_ret (v:=.tuple #[.agg #[.int .u8 (l.toNat:Int),.int .i64 0,.bool false,.slice FA fn fc,.slice TA tn tc],.bool false]) (by simp [results,Tryz.results47,go_sem,q0,q1,q2,q3,q4];try rfl) rfl ?_
         exact ⟨_,_,_,_,_,hbf,.inr ⟨by rw [HCD2.out];simp [tail?,show list? t=none from HLL.out],rfl,⟨_,_,_,rfl⟩,⟨_,_,_,rfl⟩⟩⟩
       have ffalse1:(q == [61])=false:=by rw [beq_eq_false_iff_ne];exact hqfalse
       have ffalse2:(q != [61])=true:=by simp only [bne,ffalse1];rfl
       have HQfalse:=qh hqfalse
       clear hqfalse
       by_cases hqtrue:q=[33,61]
       ·subst hqtrue
        obtain ⟨k0,k1,k2,k3,k4,f0,f1,f2,f3,f4⟩:=S4.out.cnd.cf5
        obtain ⟨r0,r1,r2,r3,r4,g0,g1,g2,g3,g4⟩:=S4.out.res.cf5
        go_wp2_with fail
        have SA:=qh (S4.out.put 2 (.bool true))
        simp only [qqq0,qqq1] at SA
        refine calls_at (fun wy=>CS w [.int .u8 (l.toNat:Int),.int .i64 0,.bool true,.slice none 0 0,.slice none 0 0] wy) SA.out ?_
        clear e0 e1 k0 k1 k2 k3 k4 f0 f1 f2 f3 f4 r0 r1 r2 r3 r4 g0 g1 g2 g3 g4
        rintro wy hs
        have SB:=qh hs
        clear hs
        refine (rule_list w wy (w.heap.size+1) (l.toNat:Int) 0 true ⟨t.toArray⟩ HG.out SB.out.bel (by omega) SB.out.cnd (by rw [Lib.size_eq];simpa using htl)).mono ?_
        rintro e wz ⟨vF,vT,hbz,hgz,⟨FA,fn,fc,rfl⟩,⟨TA,tn,tc,rfl⟩,hz⟩
        have SC:Hid (CS w [.int .u8 (l.toNat:Int),.int .i64 0,.bool true,.slice FA fn fc,.slice TA tn tc] wz):=⟨SB.out.res.kept hgz (by simp),hbz,below_grown SB.out.bel hgz SB.out.bel.size (by intro j hj;cases hj;omega)⟩
        have hwz:=SB.out.cnd.lt
        rcases hz with ⟨LL,hLL,rfl,hiF,hiT⟩|⟨hLL,rfl⟩
        ·have HLL:=qh hLL
         have HIF:=qh (((((hiF.set (g:=w.heap.size) (by omega) 0 (.int .u8 (l.toNat:Int))).set (g:=w.heap.size) (by omega) 1 (.int .i64 0)).set (g:=w.heap.size) (by omega) 2 (.bool true)).set (g:=w.heap.size) (by omega) 3 (.slice FA fn fc)).set (g:=w.heap.size) (by omega) 4 (.slice TA tn tc))
         have HIT:=qh (((((hiT.set (g:=w.heap.size) (by omega) 0 (.int .u8 (l.toNat:Int))).set (g:=w.heap.size) (by omega) 1 (.int .i64 0)).set (g:=w.heap.size) (by omega) 2 (.bool true)).set (g:=w.heap.size) (by omega) 3 (.slice FA fn fc)).set (g:=w.heap.size) (by omega) 4 (.slice TA tn tc))
         clear hLL hiF hiT hbz hgz
         try dsimp only
         obtain ⟨k0,k1,k2,k3,k4,f0,f1,f2,f3,f4⟩:=SC.out.cnd.cf5
         obtain ⟨r0,r1,r2,r3,r4,g0,g1,g2,g3,g4⟩:=SC.out.res.cf5
         go_wp2_with fail
         obtain ⟨hf,hbf⟩:=CS.fin (a:=.int .u8 (l.toNat:Int)) (b:=.int .i64 0) (c:=.bool true) (d:=.slice FA fn fc) (e:=.slice TA tn tc) SC.out
         obtain ⟨q0,q1,q2,q3,q4⟩:=hf.c5
         generalize (((((wz.setCell ⟨w.heap.size,0,none⟩ (.int .u8 (l.toNat:Int))).setCell ⟨w.heap.size,1,none⟩ (.int .i64 0)).setCell ⟨w.heap.size,2,none⟩ (.bool true)).setCell ⟨w.heap.size,3,none⟩ (.slice FA fn fc)).setCell ⟨w.heap.size,4,none⟩ (.slice TA tn tc))=wf at *
         refine bodyPost_ret (v:=.tuple #[.agg #[.int .u8 (l.toNat:Int),.int .i64 0,.bool true,.slice FA fn fc,.slice TA tn tc],.bool true]) (by simp [results,Tryz.results47,go_sem,q0,q1,q2,q3,q4];try rfl) rfl ?_
         exact ⟨_,_,_,_,_,hbf,.inl ⟨mkC l.toNat 0 true LL,by rw [HCD2.out];simp [tail?,show list? t=some LL from HLL.out],rfl,⟨_,_,_,rfl⟩,⟨_,_,_,rfl⟩,rfl,rfl,rfl,HIF.out.mono SB.out.bel.size,HIT.out.mono SB.out.bel.size⟩⟩
        ·have HLL:=qh hLL
         clear hLL hbz hgz
         try dsimp only
         obtain ⟨k0,k1,k2,k3,k4,f0,f1,f2,f3,f4⟩:=SC.out.cnd.cf5
         obtain ⟨r0,r1,r2,r3,r4,g0,g1,g2,g3,g4⟩:=SC.out.res.cf5
         go_wp2_with fail
         obtain ⟨hf,hbf⟩:=CS.fin (a:=.int .u8 (l.toNat:Int)) (b:=.int .i64 0) (c:=.bool true) (d:=.slice FA fn fc) (e:=.slice TA tn tc) SC.out
         obtain ⟨q0,q1,q2,q3,q4⟩:=hf.c5
         generalize (((((wz.setCell ⟨w.heap.size,0,none⟩ (.int .u8 (l.toNat:Int))).setCell ⟨w.heap.size,1,none⟩ (.int .i64 0)).setCell ⟨w.heap.size,2,none⟩ (.bool true)).setCell ⟨w.heap.size,3,none⟩ (.slice FA fn fc)).setCell ⟨w.heap.size,4,none⟩ (.slice TA tn tc))=wf at *
         refine bodyPost_ret (v:=.tuple #[.agg #[.int .u8 (l.toNat:Int),.int .i64 0,.bool true,.slice FA fn fc,.slice TA tn tc],.bool false]) (by simp [results,Tryz.results47,go_sem,q0,q1,q2,q3,q4];try rfl) rfl ?_
         exact ⟨_,_,_,_,_,hbf,.inr ⟨by rw [HCD2.out];simp [tail?,show list? t=none from HLL.out],rfl,⟨_,_,_,rfl⟩,⟨_,_,_,rfl⟩⟩⟩
       have ftrue1:(q == [33,61])=false:=by rw [beq_eq_false_iff_ne];exact hqtrue
       have ftrue2:(q != [33,61])=true:=by simp only [bne,ftrue1];rfl
       have HQtrue:=qh hqtrue
       clear hqtrue
       obtain ⟨k0,k1,k2,k3,k4,f0,f1,f2,f3,f4⟩:=S4.out.cnd.cf5
       obtain ⟨r0,r1,r2,r3,r4,g0,g1,g2,g3,g4⟩:=S4.out.res.cf5
       go_wp2_with fail
       obtain ⟨hf,hbf⟩:=CS.fin (a:=.int .u8 (l.toNat:Int)) (b:=.int .i64 0) (c:=.bool false) (d:=.slice none 0 0) (e:=.slice none 0 0) S4.out
       obtain ⟨q0,q1,q2,q3,q4⟩:=hf.c5
       generalize (((((w3.setCell ⟨w.heap.size,0,none⟩ (.int .u8 (l.toNat:Int))).setCell ⟨w.heap.size,1,none⟩ (.int .i64 0)).setCell ⟨w.heap.size,2,none⟩ (.bool false)).setCell ⟨w.heap.size,3,none⟩ (.slice none 0 0)).setCell ⟨w.heap.size,4,none⟩ (.slice none 0 0))=wf at *
       refine bodyPost_ret (v:=.tuple #[.agg #[.int .u8 (l.toNat:Int),.int .i64 0,.bool false,.slice none 0 0,.slice none 0 0],.bool false]) (by simp [results,Tryz.results47,go_sem,q0,q1,q2,q3,q4];try rfl) rfl ?_
       exact ⟨_,_,_,_,_,hbf,.inr ⟨by rw [HCD2.out];simp [tail?,HQfalse.out,HQtrue.out],rfl,⟨_,_,_,rfl⟩,⟨_,_,_,rfl⟩⟩⟩
   ·have HLM:=qh hlm
    clear hlm
    go_enter Tryz.func47,Tryz.ntmps47
    go_upto_region 2 with fail
    refine wp_letter (fun w1=>CS w [.int .u8 0,.int .i64 0,.bool false,.slice none 0 0,.slice none 0 0] w1) ⟨(Blk.made _ 47 _ _ _ rfl rfl).alloc _,Blk.made _ 47 _ _ _ (by simp) rfl,((Below.refl _ _).alloc ql _).alloc (by simp) _⟩ ?_
    rintro w1 hs1
    have S1:=qh hs1
    clear hs1
    have c0:=(S1.out.bel.cell (World.block_lt_of_cell? w _ C0.out)).trans C0.out
    go_wp2_with fail
    refine (str_letter _ l (HG.out.below S1.out.bel ql)).mono ?_
    rintro e w2 ⟨rfl,hb2⟩
    have S2:=qh (S1.out.below hb2)
    clear hb2 c0
    have c0:=(S2.out.bel.cell (World.block_lt_of_cell? w _ C0.out)).trans C0.out
    rw [decide_eq_false HLM.out]
    obtain ⟨k0,k1,k2,k3,k4,f0,f1,f2,f3,f4⟩:=S2.out.cnd.cf5
    obtain ⟨r0,r1,r2,r3,r4,g0,g1,g2,g3,g4⟩:=S2.out.res.cf5
    try dsimp only
    go_wp2_with fail
    obtain ⟨hf,hbf⟩:=CS.fin (a:=.int .u8 0) (b:=.int .i64 0) (c:=.bool false) (d:=.slice none 0 0) (e:=.slice none 0 0) S2.out
    obtain ⟨q0,q1,q2,q3,q4⟩:=hf.c5
    generalize (((((w2.setCell ⟨w.heap.size,0,none⟩ (.int .u8 0)).setCell ⟨w.heap.size,1,none⟩ (.int .i64 0)).setCell ⟨w.heap.size,2,none⟩ (.bool false)).setCell ⟨w.heap.size,3,none⟩ (.slice none 0 0)).setCell ⟨w.heap.size,4,none⟩ (.slice none 0 0))=wf at *
    refine bodyPost_ret (v:=.tuple #[.agg #[.int .u8 0,.int .i64 0,.bool false,.slice none 0 0,.slice none 0 0],.bool false]) (by simp [results,Tryz.results47,go_sem,q0,q1,q2,q3,q4];try rfl) rfl ?_
    exact ⟨_,_,_,_,_,hbf,.inr ⟨by simp [cond?,HLM.out],rfl,⟨_,_,_,rfl⟩,⟨_,_,_,rfl⟩⟩⟩
  ·have hwn:((w0.length:Int) == 1)=false:=by rw [beq_eq_false_iff_ne];omega
   have hwn2:((w0.length:Int) != 1)=true:=by simp only [bne,hwn];rfl
   have HW:=qh hw
   have C0:=qh c0
   clear hw c0 hc
   go_enter Tryz.func47,Tryz.ntmps47
   go_upto_region 2 with fail
   refine wp_letter (fun w1=>CS w [.int .u8 0,.int .i64 0,.bool false,.slice none 0 0,.slice none 0 0] w1) ⟨(Blk.made _ 47 _ _ _ rfl rfl).alloc _,Blk.made _ 47 _ _ _ (by simp) rfl,((Below.refl _ _).alloc ql _).alloc (by simp) _⟩ ?_
   rintro w1 hs1
   have S1:=qh hs1
   clear hs1
   obtain ⟨k0,k1,k2,k3,k4,f0,f1,f2,f3,f4⟩:=S1.out.cnd.cf5
   obtain ⟨r0,r1,r2,r3,r4,g0,g1,g2,g3,g4⟩:=S1.out.res.cf5
   have c0:=(S1.out.bel.cell (World.block_lt_of_cell? w _ C0.out)).trans C0.out
   try dsimp only
   go_wp2_with fail
   obtain ⟨hf,hbf⟩:=CS.fin (a:=.int .u8 0) (b:=.int .i64 0) (c:=.bool false) (d:=.slice none 0 0) (e:=.slice none 0 0) S1.out
   obtain ⟨q0,q1,q2,q3,q4⟩:=hf.c5
   generalize (((((w1.setCell ⟨w.heap.size,0,none⟩ (.int .u8 0)).setCell ⟨w.heap.size,1,none⟩ (.int .i64 0)).setCell ⟨w.heap.size,2,none⟩ (.bool false)).setCell ⟨w.heap.size,3,none⟩ (.slice none 0 0)).setCell ⟨w.heap.size,4,none⟩ (.slice none 0 0))=wf at *
   refine bodyPost_ret (v:=.tuple #[.agg #[.int .u8 0,.int .i64 0,.bool false,.slice none 0 0,.slice none 0 0],.bool false]) (by simp [results,Tryz.results47,go_sem,q0,q1,q2,q3,q4];try rfl) rfl ?_
   exact ⟨_,_,_,_,_,hbf,.inr ⟨by unfold cond?;split;(rename_i l0 r0 e0;cases e0;exact absurd rfl HW.out);rfl,rfl,⟨_,_,_,rfl⟩,⟨_,_,_,rfl⟩⟩⟩
end Go.Proofs.YtdgleeglndcjhaaGreatDoor
