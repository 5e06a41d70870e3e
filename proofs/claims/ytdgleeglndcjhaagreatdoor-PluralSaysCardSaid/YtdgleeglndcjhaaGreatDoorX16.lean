import Derived.Test.YtdgleeglndcjhaaGreatDoorX15
import Derived.Deep.RegionWith
set_option linter.unusedVariables false
set_option maxRecDepth 100000
namespace Go.Proofs.YtdgleeglndcjhaaGreatDoor
open Go.RowKit
def SN (w:World) (A:Option Addr) (n c k:Nat):Prop:=RN w (.slice A n c) k
def Big (k:Nat):Prop:=(wordsOf k).length≤1000000
theorem big_pow {a k:Nat} (h:a<2 ^ k) (hk:k≤30000000):Big a:=by
 unfold Big;generalize hm:1000000=m;rw [length_wordsOf];refine Nat.lt_of_lt_of_le h ?_;rw [show (4294967296:Nat)=2 ^ 32 from rfl,← Nat.pow_mul];exact Nat.pow_le_pow_right (by omega) (by omega)
theorem Big.mono {a b:Nat} (h:Big b) (hab:a≤b):Big a:=Nat.le_trans (length_mono hab) h
theorem SN.below {w w':World} {A:Option Addr} {n c k B:Nat} (h:SN w A n c k) (hb:Below B w w') (hB:w.heap.size≤B):SN w' A n c k:=RN.below h hb hB
theorem SN.len {w:World} {A:Option Addr} {n c k:Nat} (h:SN w A n c k):n=(wordsOf k).length:=by
 obtain ⟨A',c',h1,-⟩:=RL.form h;exact (Value.slice.inj h1).2.1
theorem SN.far {w:World} {A:Option Addr} {n c k:Nat} (h:SN w A n c k) {g:Nat} {t:TypeId} {cs:List Value} (hB:Blk w g t cs) (hcs:∀ x ∈ cs,∀ n,x≠.int .u32 n) (j:Nat) (u:Value):SN (w.setCell ⟨g,j,none⟩ u) A n c k:=RN.far h hB hcs j u
theorem RN.sn {w:World} {v:Value} {k:Nat} (h:RN w v k):∃ A n c,v=.slice A n c∧SN w A n c k:=by
 obtain ⟨A,c,rfl,-⟩:=RL.form h;exact ⟨A,_,c,rfl,h⟩
theorem SN.zero (w:World) (A:Option Addr) (c:Nat):SN w A 0 c 0:=by
 unfold SN RN RL;rw [wordsOf_zero];exact ⟨SlC.nil w 1 c A,Wd.nil⟩
theorem Blk.drew {w:World} {g:Nat} {t:TypeId} {l:List Value} (h:Blk w g t l):Blk w.drew g t l:=h.drewN 1
def cellAt (w:World) (p:Addr):Value:=(w.cell? p).getD (.bool false)
theorem calls_letter {P:Program} {f:FuncId} {args:Array Value} {K:Ending→World→Prop} {w:World} (R:World→Prop) (h:R w) (k:∀ w1,R w1→Calls P f args w1 K):Calls P f args w K:=k w h
def No32 (l:List Value):Prop:=∀ x ∈ l,∀ n,x≠.int .u32 n
structure Hold (W:World) (g:Nat) (t:TypeId) (n:Nat) (w:World):Prop where
 grown:W.grownBy w (some g)
 lt:g<W.heap.size
 is:∃ l:List Value,l.length=n∧Blk w g t l∧No32 l
 was:∃ l:List Value,Blk W g t l∧No32 l
theorem Hold.start {W:World} {g:Nat} {t:TypeId} {l:List Value} (h:Blk W g t l) (hl:No32 l):Hold W g t l.length W:=⟨grown_refl _ _,h.lt,⟨l,rfl,h,hl⟩,⟨l,h,hl⟩⟩
theorem Hold.drew {W w:World} {g n:Nat} {t:TypeId} (h:Hold W g t n w):Hold W g t n w.drew:=by
 obtain ⟨h1,h2,⟨l,h3,h4,h5⟩,h6⟩:=h;exact ⟨grown_drewN h1 1,h2,⟨l,h3,h4.drewN 1,h5⟩,h6⟩
theorem Hold.call {W w w':World} {g n:Nat} {t:TypeId} (h:Hold W g t n w) (hb:Below w.heap.size w w'):Hold W g t n w':=by
 obtain ⟨h1,h2,⟨l,h3,h4,h5⟩,h6⟩:=h;exact ⟨⟨hb.os.trans h1.os,hb.tape.trans h1.tape,hb.output.trans h1.output,Nat.le_trans h1.size hb.size,fun k hk hne=>(hb.block k (Nat.lt_of_lt_of_le hk h1.size)).trans (h1.block k hk hne)⟩,h2,⟨l,h3,h4.below hb h4.lt,h5⟩,h6⟩
theorem Hold.set {W w:World} {g n:Nat} {t:TypeId} (h:Hold W g t n w) (i:Nat) (u:Value) (hu:∀ n,u≠.int .u32 n):Hold W g t n (w.setCell ⟨g,i,none⟩ u):=by
 obtain ⟨h1,h2,⟨l,h3,h4,h5⟩,h6⟩:=h;refine ⟨grown_set h1 i u,h2,⟨_,by simpa using h3,h4.put i u,fun x hx=>?_⟩,h6⟩;rcases List.mem_or_eq_of_mem_set hx with h|h
 ·exact h5 x h
 ·subst h;exact hu
theorem Hold.cell {W w:World} {g n:Nat} {t:TypeId} (h:Hold W g t n w) (i:Nat) (hi:i<n):w.cell? ⟨g,i,none⟩=some (cellAt w ⟨g,i,none⟩):=by
 obtain ⟨h1,h2,⟨l,h3,h4,h5⟩,h6⟩:=h;unfold cellAt;rw [h4.cell,List.getElem?_eq_getElem (by omega)];rfl
theorem Hold.fill1 {W w:World} {g:Nat} {t:TypeId} (h:Hold W g t 1 w) (a:Value):Blk (w.setCell ⟨g,0,none⟩ a) g t [a]:=by
 obtain ⟨-,-,⟨l,h3,h4,-⟩,-⟩:=h;obtain ⟨x,rfl⟩:=List.length_eq_one_iff.1 h3;exact h4.put 0 a
theorem Hold.fill2 {W w:World} {g:Nat} {t:TypeId} (h:Hold W g t 2 w) (a b:Value):Blk ((w.setCell ⟨g,0,none⟩ a).setCell ⟨g,1,none⟩ b) g t [a,b]:=by
 obtain ⟨-,-,⟨l,h3,h4,-⟩,-⟩:=h
 obtain ⟨x,y,rfl⟩:∃ x y,l=[x,y]:=by
  match l,h3 with
  | [x,y],_=>exact ⟨x,y,rfl⟩
 exact (h4.put 0 a).put 1 b
theorem Hold.fill3 {W w:World} {g:Nat} {t:TypeId} (h:Hold W g t 3 w) (a b c:Value):Blk (((w.setCell ⟨g,0,none⟩ a).setCell ⟨g,1,none⟩ b).setCell ⟨g,2,none⟩ c) g t [a,b,c]:=by
 obtain ⟨-,-,⟨l,h3,h4,-⟩,-⟩:=h
 obtain ⟨x,y,z,rfl⟩:∃ x y z,l=[x,y,z]:=by
  match l,h3 with
  | [x,y,z],_=>exact ⟨x,y,z,rfl⟩
 exact ((h4.put 0 a).put 1 b).put 2 c
theorem Hold.frozen {W w:World} {g n:Nat} {t:TypeId} (h:Hold W g t n w) (i:Nat):w.frozen? ⟨g,i,none⟩=false:=by
 obtain ⟨h1,h2,⟨l,h3,h4,h5⟩,h6⟩:=h;exact h4.frozen i
theorem Hold.blk {W w:World} {g n b:Nat} {t s:TypeId} {l:List Value} (h:Hold W g t n w) (hB:Blk W b s l) (hne:b≠g):Blk w b s l:=hB.grown h.1 hne
theorem Hold.below {W w:World} {g n B:Nat} {t:TypeId} (h:Hold W g t n w) (hB:B≤g):Below B W w :=
 ⟨h.1.os,h.1.tape,h.1.output,h.1.size,fun k hk=>h.1.block k (Nat.lt_of_lt_of_le (Nat.lt_of_lt_of_le hk hB) (Nat.le_of_lt h.lt)) (by intro h;cases h;omega)⟩
theorem SN.apart {w w':World} {A:Option Addr} {m c k g:Nat} {t:TypeId} {l:List Value} (hs:SN w A m c k) (hB:Blk w g t l) (hl:No32 l) (hk:∀ b,b<w.heap.size→b≠g→w'.heap[b]?=w.heap[b]?):SN w' A m c k:=by
 obtain ⟨⟨A',c',h1,h2,h3,h4⟩,hd⟩:=hs;refine ⟨⟨A',c',h1,h2,h3,fun hp=>?_⟩,hd⟩;obtain ⟨b,o,h5,h6⟩:=h4 hp
 have hne:b≠g:=by
  rintro rfl;have hl':0<(wordsOf k).length:=by simpa [U32] using hp
  have h0:=h6 0 _ (U32_get _ 0 hl');rw [hB.cell] at h0;exact hl _ (List.mem_of_getElem? h0) _ rfl
 refine ⟨b,o,h5,fun j x hx=>?_⟩;have:=h6 j x hx;rw [← this];unfold World.cell?;rw [hk b (World.block_lt_of_cell? w _ this) hne]
theorem Hold.sn {W w:World} {g n:Nat} {t:TypeId} (h:Hold W g t n w) {A:Option Addr} {m c k:Nat} (hs:SN W A m c k):SN w A m c k:=by
 obtain ⟨l,hB,hl⟩:=h.was;exact hs.apart hB hl fun b hb hne=>h.1.block b hb (by intro h;cases h;exact hne rfl)
theorem SN.hset {W w:World} {g n:Nat} {t:TypeId} {A:Option Addr} {m c k:Nat} (hs:SN w A m c k) (h:Hold W g t n w) (i:Nat) (u:Value):SN (w.setCell ⟨g,i,none⟩ u) A m c k:=by
 obtain ⟨l,-,hB,hl⟩:=h.is;exact hs.apart hB hl fun b hb hne=>Below.heap_setCell _ _ _ _ hne
theorem SN.drew {w:World} {A:Option Addr} {m c k:Nat} (hs:SN w A m c k):SN w.drew A m c k:=hs.below ((Below.refl _ _).drew) ql
structure RZ (w:World) (b:Bool) (A:Option Addr) (n c:Nat) (z:Int):Prop where
 sign:b=decide (z<0)
 sn:SN w A n c z.natAbs
def RetN (e:Ending) (w':World) (k:Nat):Prop:=∃ A n c,e=.returned (.agg #[.slice A n c])∧SN w' A n c k
def RetZ (e:Ending) (w':World) (z:Int):Prop:=∃ b A n c,e=.returned (.agg #[.bool b,.slice A n c])∧RZ w' b A n c z
theorem num_zero (w:World) (A:Option Addr) (n c k:Nat) (h:SN w A n c k) (hk:Big k) :
  Calls Tryz.prog 201 #[.agg #[.slice A n c]] w fun e w'=>e=.returned (.bool (decide (k=0)))∧Below w.heap.size w w':=by
 have HX:=qh h;have HK:=qh hk;clear h hk;go_enter Tryz.func201,Tryz.ntmps201;go_wp2_with fail;have BB:Below w.heap.size w (w.alloc (.cells #[.slice A n c] 24)):=(Below.refl _ _).alloc ql _;refine (nat_Cmp _ _ _ (wordsOf k) (wordsOf 0) (HX.o.below BB ql) (SN.zero _ _ _) (Nat.le_trans HK.o (by omega)) (by simp [wordsOf_zero])).mono ?_;rintro e w1 ⟨rfl,hb⟩;rw [val_wordsOf,val_wordsOf]
 have hcmp:(cmpN k 0 == 0)=decide (k=0):=by
  by_cases h:k=0
  ·rw [cmpN_eq h];simp [h]
  ·rw [cmpN_gt (Nat.pos_of_ne_zero h)];simp [h]
 generalize cmpN k 0=z at *
 have Hb:=qh (BB.trans (hb.mono BB.size));clear hb BB;dsimp only
 go_wp2
 go_ret
 exact ⟨by rw [← hcmp];rfl,Hb.o⟩
theorem rat_zero (w:World) (A:Option Addr) (n c k:Nat) (h:SN w A n c k) (hk:Big k) :
  Calls Tryz.prog 138 #[.agg #[.slice A n c]] w fun e w'=>e=.returned (.bool (decide (k=0)))∧Below w.heap.size w w':=by
 have HX:=qh h;have HK:=qh hk;clear h hk;go_enter Tryz.func138,Tryz.ntmps138;go_wp2_with fail;have BB:Below w.heap.size w (w.alloc (.cells #[.slice A n c] 24)):=(Below.refl _ _).alloc ql _;refine (nat_Cmp _ _ _ (wordsOf k) (wordsOf 0) (HX.o.below BB ql) (SN.zero _ _ _) (Nat.le_trans HK.o (by omega)) (by simp [wordsOf_zero])).mono ?_;rintro e w1 ⟨rfl,hb⟩;rw [val_wordsOf,val_wordsOf]
 have hcmp:(cmpN k 0 == 0)=decide (k=0):=by
  by_cases h:k=0
  ·rw [cmpN_eq h];simp [h]
  ·rw [cmpN_gt (Nat.pos_of_ne_zero h)];simp [h]
 generalize cmpN k 0=z at *
 have Hb:=qh (BB.trans (hb.mono BB.size));clear hb BB;dsimp only
 go_wp2
 go_ret
 exact ⟨by rw [← hcmp];rfl,Hb.o⟩
theorem dec_zero (w:World) (A:Option Addr) (n c k:Nat) (h:SN w A n c k) (hk:Big k) :
  Calls Tryz.prog 76 #[.agg #[.slice A n c]] w fun e w'=>e=.returned (.bool (decide (k=0)))∧Below w.heap.size w w':=by
 have HX:=qh h;have HK:=qh hk;clear h hk;go_enter Tryz.func76,Tryz.ntmps76;go_wp2_with fail;have BB:Below w.heap.size w (w.alloc (.cells #[.slice A n c] 24)):=(Below.refl _ _).alloc ql _;refine (nat_Cmp _ _ _ (wordsOf k) (wordsOf 0) (HX.o.below BB ql) (SN.zero _ _ _) (Nat.le_trans HK.o (by omega)) (by simp [wordsOf_zero])).mono ?_;rintro e w1 ⟨rfl,hb⟩;rw [val_wordsOf,val_wordsOf]
 have hcmp:(cmpN k 0 == 0)=decide (k=0):=by
  by_cases h:k=0
  ·rw [cmpN_eq h];simp [h]
  ·rw [cmpN_gt (Nat.pos_of_ne_zero h)];simp [h]
 generalize cmpN k 0=z at *
 have Hb:=qh (BB.trans (hb.mono BB.size));clear hb BB;dsimp only
 go_wp2
 go_ret
 exact ⟨by rw [← hcmp];rfl,Hb.o⟩
theorem big_len {k m:Nat} (h:Big k) (hm:1000000≤m):(wordsOf k).length≤m:=Nat.le_trans h hm
theorem natAdd (w:World) (A A':Option Addr) (n c n' c' a b:Nat) (hx:SN w A n c a) (hy:SN w A' n' c' b) (ha:Big a) (hb:Big b) :
  Calls Tryz.prog 202 #[.agg #[.slice A n c],.agg #[.slice A' n' c']] w fun e w'=>RetN e w' (a+b)∧Below w.heap.size w w':=by
 refine (nat_Add w _ _ (wordsOf a) (wordsOf b) hx hy (big_len ha (by omega)) (big_len hb (by omega))).mono ?_;rintro e w' ⟨v,rfl,hr,hb⟩;rw [val_wordsOf,val_wordsOf] at hr;obtain ⟨A1,n1,c1,rfl,hr⟩:=RN.sn hr;exact ⟨⟨_,_,_,rfl,hr⟩,hb⟩
theorem natMul (w:World) (A A':Option Addr) (n c n' c' a b:Nat) (hx:SN w A n c a) (hy:SN w A' n' c' b) (ha:Big a) (hb:Big b) :
  Calls Tryz.prog 149 #[.agg #[.slice A n c],.agg #[.slice A' n' c']] w fun e w'=>RetN e w' (a * b)∧Below w.heap.size w w':=by
 refine (nat_Mul w _ _ (wordsOf a) (wordsOf b) hx hy (big_len ha (by omega)) (big_len hb (by omega))).mono ?_;rintro e w' ⟨v,rfl,hr,hb⟩;rw [val_wordsOf,val_wordsOf] at hr;obtain ⟨A1,n1,c1,rfl,hr⟩:=RN.sn hr;exact ⟨⟨_,_,_,rfl,hr⟩,hb⟩
theorem natGcd (w:World) (A A':Option Addr) (n c n' c' a b:Nat) (hx:SN w A n c a) (hy:SN w A' n' c' b) (ha:Big a) (hb:Big b) :
  Calls Tryz.prog 140 #[.agg #[.slice A n c],.agg #[.slice A' n' c']] w fun e w'=>RetN e w' (Nat.gcd a b)∧Below w.heap.size w w':=by
 refine (nat_Gcd w _ _ (wordsOf a) (wordsOf b) hx hy ha hb).mono ?_;rintro e w' ⟨v,rfl,hr,hb⟩;rw [val_wordsOf,val_wordsOf] at hr;obtain ⟨A1,n1,c1,rfl,hr⟩:=RN.sn hr;exact ⟨⟨_,_,_,rfl,hr⟩,hb⟩
def RetNB (e:Ending) (w':World) (k:Nat):Prop:=∃ A n c,e=.returned (.tuple #[.agg #[.slice A n c],.bool true])∧SN w' A n c k
def RetNN (e:Ending) (w':World) (q r:Nat):Prop:=∃ A n c A' n' c',e=.returned (.tuple #[.agg #[.slice A n c],.agg #[.slice A' n' c'],.bool true])∧SN w' A n c q∧SN w' A' n' c' r
theorem natSub (w:World) (A A':Option Addr) (n c n' c' a b:Nat) (hx:SN w A n c a) (hy:SN w A' n' c' b) (ha:Big a) (hb:Big b) (hle:b≤a) :
  Calls Tryz.prog 203 #[.agg #[.slice A n c],.agg #[.slice A' n' c']] w fun e w'=>RetNB e w' (a - b)∧Below w.heap.size w w':=by
 refine (nat_Sub w _ _ (wordsOf a) (wordsOf b) hx hy (big_len ha (by omega)) (big_len hb (by omega)) (by rwa [val_wordsOf,val_wordsOf])).mono ?_;rintro e w' ⟨v,rfl,hr,hb⟩;rw [val_wordsOf,val_wordsOf] at hr;obtain ⟨A1,n1,c1,rfl,hr⟩:=RN.sn hr;exact ⟨⟨_,_,_,rfl,hr⟩,hb⟩
theorem natSubNo (w:World) (A A':Option Addr) (n c n' c' a b:Nat) (hx:SN w A n c a) (hy:SN w A' n' c' b) (ha:Big a) (hb:Big b) (hlt:a<b) :
  Calls Tryz.prog 203 #[.agg #[.slice A n c],.agg #[.slice A' n' c']] w fun e w'=>e=.returned (.tuple #[.agg #[.slice none 0 0],.bool false])∧Below w.heap.size w w':=by
 exact nat_Sub_no w _ _ (wordsOf a) (wordsOf b) hx hy (big_len ha (by omega)) (big_len hb (by omega)) (by rwa [val_wordsOf,val_wordsOf])
theorem natDiv (w:World) (A A':Option Addr) (n c n' c' a b:Nat) (hx:SN w A n c a) (hy:SN w A' n' c' b) (ha:Big a) (hb:Big b) (hb0:0<b) :
  Calls Tryz.prog 86 #[.agg #[.slice A n c],.agg #[.slice A' n' c']] w fun e w'=>RetNN e w' (a / b) (a % b)∧Below w.heap.size w w':=by
 refine (nat_Div w _ _ (wordsOf a) (wordsOf b) hx hy (big_len ha (by omega)) (big_len hb (by omega)) (by rwa [val_wordsOf])).mono ?_;rintro e w' ⟨v,u,rfl,hr,hu,hb⟩;rw [val_wordsOf,val_wordsOf] at hr hu;obtain ⟨A1,n1,c1,rfl,hr⟩:=RN.sn hr;obtain ⟨A2,n2,c2,rfl,hu⟩:=RN.sn hu;exact ⟨⟨_,_,_,_,_,_,rfl,hr,hu⟩,hb⟩
theorem natOf (w:World) (n:Nat) (hn:n<18446744073709551616) :
  Calls Tryz.prog 18 #[.int .u64 n] w fun e w'=>RetN e w' n∧Below w.heap.size w w':=by
 refine (nat_Of w n hn).mono ?_;rintro e w' ⟨v,rfl,hr,hb⟩;obtain ⟨A1,n1,c1,rfl,hr⟩:=RN.sn hr;exact ⟨⟨_,_,_,rfl,hr⟩,hb⟩
theorem zmul {b b':Bool} {x y:Int} (h:b=decide (x<0)) (h':b'=decide (y<0)):(if (!(b == b'))=true then -((x.natAbs * y.natAbs:Nat):Int) else ((x.natAbs * y.natAbs:Nat):Int))=x * y:=by
 subst h;subst h';by_cases hx:x<0 <;> by_cases hy:y<0 <;> simp only [hx,hy,decide_true,decide_false] <;> simp
 ·rw [show (x.natAbs:Int)=-x by omega,show (y.natAbs:Int)=-y by omega,Int.neg_mul_neg]
 ·rw [show (x.natAbs:Int)=-x by omega,show (y.natAbs:Int)=y by omega,Int.neg_mul,Int.neg_neg]
 ·rw [show (x.natAbs:Int)=x by omega,show (y.natAbs:Int)=-y by omega,Int.mul_neg,Int.neg_neg]
 ·rw [show (x.natAbs:Int)=x by omega,show (y.natAbs:Int)=y by omega]
theorem num_made (w:World) (b:Bool) (A:Option Addr) (n c k:Nat) (h:SN w A n c k) (hk:Big k) :
  Calls Tryz.prog 200 #[.bool b,.agg #[.slice A n c]] w fun e w'=>RetZ e w' (if b then -(k:Int) else k)∧Below w.heap.size w w':=by
 have HX:=qh h;have HK:=qh hk;clear h hk;go_enter Tryz.func200,Tryz.ntmps200;go_wp2_with fail;have BB:Below w.heap.size w ((w.alloc (.cells #[.slice A n c] 24)).alloc (.cells #[.bool false,.slice none 0 0] 35)):=((Below.refl _ _).alloc ql _).alloc (by simp) _;have B0:Blk ((w.alloc (.cells #[.slice A n c] 24)).alloc (.cells #[.bool false,.slice none 0 0] 35)) w.heap.size 24 [.slice A n c]:=(Blk.made w 24 _ _ _ rfl rfl).alloc _;have B1:Blk ((w.alloc (.cells #[.slice A n c] 24)).alloc (.cells #[.bool false,.slice none 0 0] 35)) (w.heap.size+1) 35 [.bool false,.slice none 0 0]:=Blk.made _ 35 _ _ _ (by simp) rfl;refine (nat_Add _ _ _ (wordsOf k) (wordsOf 0) (HX.o.below BB ql) (SN.zero _ _ _) (Nat.le_trans HK.o (by omega)) (by simp [wordsOf_zero])).mono ?_;rintro e w1 ⟨v,rfl,hr,hb⟩;rw [val_wordsOf,val_wordsOf,Nat.add_zero] at hr;obtain ⟨A1,n1,c1,rfl,hr⟩:=RN.sn hr;replace B0:=B0.below hb B0.lt;replace B1:=B1.below hb B1.lt;obtain ⟨c0,f0⟩:=B0.cf1;have H0:=qh B0;have H1:=qh B1;have HR:=qh hr;have HB:=qh (BB.trans (hb.mono BB.size));clear B0 B1 hr hb BB;dsimp only;go_wp2_with fail;refine wp_letter (fun w2=>Blk w2 w.heap.size 24 [.slice A1 n1 c1]∧Blk w2 (w.heap.size+1) 35 [.bool false,.slice none 0 0]∧SN w2 A1 n1 c1 k∧Below w.heap.size w w2) ⟨H0.o.put 0 _,H1.o.far _ _ (by simp),HR.o.far H0.o (by simp) 0 _,HB.o.setCell (by simp) _⟩ ?_;clear H0 H1 HR HB c0 f0;rintro w2 ⟨b0,b1,hr,hb⟩;have k0:=b0.c1;obtain ⟨k1,k2,f1,f2⟩:=b1.cf2;have H0:=qh b0;have H1:=qh b1;have HR:=qh hr;have HB:=qh hb;have hz:=b1.lt;clear b0 b1 hr hb;have HKK:Hid (∀ w',Hold w2 (w.heap.size+1) 35 2 w'→w'.cell? ⟨w.heap.size,0,none⟩=some (.slice A1 n1 c1)∧w'.cell? ⟨w.heap.size+1,0,none⟩=some (cellAt w' ⟨w.heap.size+1,0,none⟩)∧w'.cell? ⟨w.heap.size+1,1,none⟩=some (cellAt w' ⟨w.heap.size+1,1,none⟩)∧w'.frozen? ⟨w.heap.size+1,0,none⟩=false∧w'.frozen? ⟨w.heap.size+1,1,none⟩=false∧Hold w2 (w.heap.size+1) 35 2 w'):=fun w' h=>⟨(h.blk H0.o (by omega)).cell 0,h.cell 0 (by omega),h.cell 1 (by omega),h.frozen 0,h.frozen 1,h⟩;have HSt:Hid (Hold w2 (w.heap.size+1) 35 2 w2):=Hold.start H1.o (by simp [No32]);cases b with
 | true =>
  clear k1 k2 f1 f2
  go_region_held3 (fun w'=>w'.cell? ⟨w.heap.size,0,none⟩=some (.slice A1 n1 c1)∧w'.cell? ⟨w.heap.size+1,0,none⟩=some (cellAt w' ⟨w.heap.size+1,0,none⟩)∧w'.cell? ⟨w.heap.size+1,1,none⟩=some (cellAt w' ⟨w.heap.size+1,1,none⟩)∧w'.frozen? ⟨w.heap.size+1,0,none⟩=false∧w'.frozen? ⟨w.heap.size+1,1,none⟩=false∧Hold w2 (w.heap.size+1) 35 2 w')
   (first|exact HKK.o _ HSt.o.drew|(go_split_ands;first|exact HKK.o _ (Hold.call ‹Hold w2 (w.heap.size+1) 35 2 _› hb3)|exact HKK.o _ ((‹Hold w2 (w.heap.size+1) 35 2 _›.set 0 _ (by simp)).set 1 _ (by simp))))
   (first|((with_reducible refine (num_zero _ A1 n1 c1 k ?_ HK.o).mono ?_);(refine Hold.sn (W:=w2) (g:=w.heap.size+1) (t:=35) (n:=2) ?_ HR.o;(go_split_ands;assumption));rintro e w3 ⟨rfl,hb3⟩))
  have hh:Hold w2 (w.heap.size+1) 35 2 w3:=HSt.o.drew.call hb3;have hf:=hh.fill2 (.bool (!decide (k=0))) (.slice A1 n1 c1);obtain ⟨r0,r1⟩:=hf.c2;have hg:=(hh.set 0 (.bool (!decide (k=0))) (by simp) |>.set 1 (.slice A1 n1 c1) (by simp));generalize ((w3.setCell ⟨w.heap.size+1,0,none⟩ (.bool (!decide (k=0)))).setCell ⟨w.heap.size+1,1,none⟩ (.slice A1 n1 c1))=wf at *
  go_wp2
  refine bodyPost_ret (v:=.agg #[.bool (!decide (k=0)),.slice A1 n1 c1]) (by simp [results,Tryz.results200,go_sem,r0,r1];try rfl) rfl ?_;exact ⟨⟨_,_,_,_,rfl,⟨by simp <;> by_cases hk:k=0 <;> simp [hk] <;> omega,hg.sn (by simpa using HR.o)⟩⟩,HB.o.trans (hg.below (by omega))⟩
 | false =>
  go_region
  have hf:=(HSt.o.fill2 (.bool false) (.slice A1 n1 c1)).drew;obtain ⟨r0,r1⟩:=hf.c2;have hg:=(HSt.o.set 0 (.bool false) (by simp) |>.set 1 (.slice A1 n1 c1) (by simp)).drew;generalize ((w2.setCell ⟨w.heap.size+1,0,none⟩ (.bool false)).setCell ⟨w.heap.size+1,1,none⟩ (.slice A1 n1 c1)).drew=wf at *
  go_wp2
  refine bodyPost_ret (v:=.agg #[.bool false,.slice A1 n1 c1]) (by simp [results,Tryz.results200,go_sem,r0,r1];try rfl) rfl ?_;exact ⟨⟨_,_,_,_,rfl,⟨by simp <;> by_cases hk:k=0 <;> simp [hk] <;> omega,hg.sn (by simpa using HR.o)⟩⟩,HB.o.trans (hg.below (by omega))⟩
theorem num_Mul (w:World) (b b':Bool) (A A':Option Addr) (n c n' c':Nat) (x y:Int) (hx:RZ w b A n c x) (hy:RZ w b' A' n' c' y) (hbx:Big x.natAbs) (hby:Big y.natAbs) (hbm:Big (x * y).natAbs) :
  Calls Tryz.prog 148 #[.agg #[.bool b,.slice A n c],.agg #[.bool b',.slice A' n' c']] w fun e w'=>RetZ e w' (x * y)∧Below w.heap.size w w':=by
 have HX:=qh hx;have HY:=qh hy;have HBX:=qh hbx;have HBY:=qh hby;have HBM:=qh hbm;clear hx hy hbx hby hbm;go_enter Tryz.func148,Tryz.ntmps148;go_wp2_with fail;refine wp_letter (fun w1=>Blk w1 w.heap.size 35 [.bool b,.slice A n c]∧Blk w1 (w.heap.size+1) 35 [.bool b',.slice A' n' c']∧Blk w1 (w.heap.size+1+1) 35 [.bool false,.slice none 0 0]∧Below w.heap.size w w1) ⟨(((Blk.made _ 35 _ _ _ (by simp) rfl).alloc _).alloc _),((Blk.made _ 35 _ _ _ (by simp) rfl).alloc _),(Blk.made _ 35 _ _ _ (by simp) rfl),((((Below.refl _ _).alloc (by simp;try omega) _).alloc (by simp;try omega) _).alloc (by simp;try omega) _)⟩ ?_;rintro w1 ⟨b0,b1,b2,hb⟩;obtain ⟨k00,k01⟩:=b0.c2;obtain ⟨k10,k11⟩:=b1.c2;obtain ⟨k20,k21⟩:=b2.c2;have HB:=qh hb;have H0:=qh b0;have H1:=qh b1;have H2:=qh b2;have hz:=b2.lt;clear hb b0 b1 b2;have HX1:Hid (SN w1 A n c x.natAbs):=HX.o.sn.below HB.o ql;have HY1:Hid (SN w1 A' n' c' y.natAbs):=HY.o.sn.below HB.o ql;have HKK:Hid (∀ w',Hold w1 (w.heap.size+1+1) 35 2 w'→w'.cell? ⟨w.heap.size,0,none⟩=some (.bool b)∧w'.cell? ⟨w.heap.size,1,none⟩=some (.slice A n c)∧w'.cell? ⟨w.heap.size+1,0,none⟩=some (.bool b')∧w'.cell? ⟨w.heap.size+1,1,none⟩=some (.slice A' n' c')∧w'.cell? ⟨w.heap.size+1+1,0,none⟩=some (cellAt w' ⟨w.heap.size+1+1,0,none⟩)∧w'.cell? ⟨w.heap.size+1+1,1,none⟩=some (cellAt w' ⟨w.heap.size+1+1,1,none⟩)∧w'.frozen? ⟨w.heap.size+1+1,0,none⟩=false∧w'.frozen? ⟨w.heap.size+1+1,1,none⟩=false∧Hold w1 (w.heap.size+1+1) 35 2 w'):=fun w' h=>⟨(h.blk H0.o (by omega)).cell 0,(h.blk H0.o (by omega)).cell 1,(h.blk H1.o (by omega)).cell 0,(h.blk H1.o (by omega)).cell 1,h.cell 0 (by omega),h.cell 1 (by omega),h.frozen 0,h.frozen 1,h⟩;have HSt:Hid (Hold w1 (w.heap.size+1+1) 35 2 w1):=Hold.start H2.o (by simp [No32])
 go_region_held3 (fun w'=>w'.cell? ⟨w.heap.size,0,none⟩=some (.bool b)∧w'.cell? ⟨w.heap.size,1,none⟩=some (.slice A n c)∧w'.cell? ⟨w.heap.size+1,0,none⟩=some (.bool b')∧w'.cell? ⟨w.heap.size+1,1,none⟩=some (.slice A' n' c')∧w'.cell? ⟨w.heap.size+1+1,0,none⟩=some (cellAt w' ⟨w.heap.size+1+1,0,none⟩)∧w'.cell? ⟨w.heap.size+1+1,1,none⟩=some (cellAt w' ⟨w.heap.size+1+1,1,none⟩)∧w'.frozen? ⟨w.heap.size+1+1,0,none⟩=false∧w'.frozen? ⟨w.heap.size+1+1,1,none⟩=false∧Hold w1 (w.heap.size+1+1) 35 2 w')
  (first|exact HKK.o _ HSt.o.drew|(go_split_ands;first|exact HKK.o _ (Hold.call ‹Hold w1 (w.heap.size+1+1) 35 2 _› hb2)|exact HKK.o _ (Hold.call ‹Hold w1 (w.heap.size+1+1) 35 2 _› hb3)|exact HKK.o _ ((‹Hold w1 (w.heap.size+1+1) 35 2 _›.set 0 _ (by simp)).set 1 _ (by simp))))
  (first|((with_reducible refine (natMul _ A A' n c n' c' x.natAbs y.natAbs ?_ ?_ HBX.o HBY.o).mono ?_);(refine Hold.sn (W:=w1) (g:=w.heap.size+1+1) (t:=35) (n:=2) ?_ HX1.o;(go_split_ands;assumption));(refine Hold.sn (W:=w1) (g:=w.heap.size+1+1) (t:=35) (n:=2) ?_ HY1.o;(go_split_ands;assumption));rintro e w2 ⟨⟨A2,n2,c2,rfl,hr2⟩,hb2⟩)|((with_reducible refine (num_made _ _ A2 n2 c2 _ hr2 (by rw [← Int.natAbs_mul];exact HBM.o)).mono ?_);rintro e w3 ⟨⟨b3,A3,n3,c3,rfl,hr3⟩,hb3⟩))
 rw [zmul HX.o.sign HY.o.sign] at hr3;have hh:=((HSt.o.drew.call hb2).call hb3);have hf:=hh.fill2 (.bool b3) (.slice A3 n3 c3);have hg:=((hh.set 0 (.bool b3) (by simp)).set 1 (.slice A3 n3 c3) (by simp));have hs:=((hr3.sn.hset hh 0 (.bool b3)).hset (hh.set 0 (.bool b3) (by simp)) 1 (.slice A3 n3 c3));obtain ⟨r0,r1⟩:=hf.c2;generalize ((w3.setCell ⟨w.heap.size+1+1,0,none⟩ (.bool b3)).setCell ⟨w.heap.size+1+1,1,none⟩ (.slice A3 n3 c3))=wf at *
 go_wp2
 refine bodyPost_ret (v:=.agg #[.bool b3,.slice A3 n3 c3]) (by simp [results,Tryz.results148,go_sem,r0,r1];try rfl) rfl ?_;exact ⟨⟨_,_,_,_,rfl,hr3.sign,hs⟩,HB.o.trans (hg.below (by omega))⟩
theorem num_Neg (w:World) (b:Bool) (A:Option Addr) (n c:Nat) (x:Int) (hx:RZ w b A n c x) (hbx:Big x.natAbs) :
  Calls Tryz.prog 152 #[.agg #[.bool b,.slice A n c]] w fun e w'=>RetZ e w' (-x)∧Below w.heap.size w w':=by
 have HX:=qh hx;have HBX:=qh hbx;clear hx hbx;go_enter Tryz.func152,Tryz.ntmps152;go_wp2_with fail;refine calls_letter (fun w1=>Blk w1 w.heap.size 35 [.bool b,.slice A n c]∧Blk w1 (w.heap.size+1) 35 [.bool false,.slice none 0 0]∧Below w.heap.size w w1) ⟨((Blk.made _ 35 _ _ _ (by simp) rfl).alloc _),(Blk.made _ 35 _ _ _ (by simp) rfl),(((Below.refl _ _).alloc (by simp;try omega) _).alloc (by simp;try omega) _)⟩ ?_;rintro w1 ⟨b0,b1,hb⟩;obtain ⟨k00,k01⟩:=b0.c2;obtain ⟨k10,k11,f10,f11⟩:=b1.cf2;have HB:=qh hb;have H0:=qh b0;have H1:=qh b1;have hz:=b1.lt;clear hb b0 b1;refine (num_made _ _ A n c _ (HX.o.sn.below HB.o ql) HBX.o).mono ?_;rintro e w2 ⟨⟨b3,A3,n3,c3,rfl,hr3⟩,hb2⟩
 have e1:(if (!b)=true then -(x.natAbs:Int) else (x.natAbs:Int))=-x:=by
  rw [HX.o.sign];by_cases h:x<0 <;> simp only [h,decide_true,decide_false] <;> simp <;> omega
 rw [e1] at hr3;have HSt:Hid (Hold w1 (w.heap.size+1) 35 2 w1):=Hold.start H1.o (by simp [No32]);have hh0:=HSt.o.call hb2;have k0:=hh0.cell 0 (by omega);have k1:=hh0.cell 1 (by omega);have f0:=hh0.frozen 0;have f1:=hh0.frozen 1;clear k00 k01 k10 k11 f10 f11 e1;dsimp only;go_wp2_with fail;have hh:=(HSt.o.call hb2);have hf:=hh.fill2 (.bool b3) (.slice A3 n3 c3);have hg:=((hh.set 0 (.bool b3) (by simp)).set 1 (.slice A3 n3 c3) (by simp));have hs:=((hr3.sn.hset hh 0 (.bool b3)).hset (hh.set 0 (.bool b3) (by simp)) 1 (.slice A3 n3 c3));obtain ⟨r0,r1⟩:=hf.c2;generalize ((w2.setCell ⟨w.heap.size+1,0,none⟩ (.bool b3)).setCell ⟨w.heap.size+1,1,none⟩ (.slice A3 n3 c3))=wf at *
 refine bodyPost_ret (v:=.agg #[.bool b3,.slice A3 n3 c3]) (by simp [results,Tryz.results152,go_sem,r0,r1];try rfl) rfl ?_;exact ⟨⟨_,_,_,_,rfl,hr3.sign,hs⟩,HB.o.trans (hg.below (by omega))⟩
theorem num_Of (w:World) (n:Nat) (hn:n<9223372036854775808) :
  Calls Tryz.prog 145 #[.int .i64 n] w fun e w'=>RetZ e w' n∧Below w.heap.size w w':=by
 have HN:=qh hn;have h0:¬ ((n:Int)<0):=by omega
 have h1:(0:Int)≤(n:Int):=by omega
 have h2:(n:Int)<9223372036854775808:=by omega
 have h3:(n:Int)<18446744073709551616:=by omega
 clear hn;go_enter Tryz.func145,Tryz.ntmps145;go_wp2_with fail;refine calls_letter (fun w1=>Blk w1 w.heap.size 35 [.bool false,.slice none 0 0]∧Below w.heap.size w w1) ⟨(Blk.made _ 35 _ _ _ (by simp) rfl),((Below.refl _ _).alloc (by simp;try omega) _)⟩ ?_;rintro w1 ⟨b0,hb⟩;obtain ⟨k00,k01,f00,f01⟩:=b0.cf2;have HB:=qh hb;have H0:=qh b0;have hz:=b0.lt;clear hb b0;refine (natOf _ n (by have:=HN.o;omega)).mono ?_;rintro e w2 ⟨⟨A2,n2,c2,rfl,hr2⟩,hb2⟩;dsimp only;go_wp2_with fail;refine (num_made _ _ A2 n2 c2 _ hr2 (big_pow (k:=63) HN.o (by omega))).mono ?_;rintro e w3 ⟨⟨b3,A3,n3,c3,rfl,hr3⟩,hb3⟩;simp only [Bool.false_eq_true,if_false] at hr3;have HSt:Hid (Hold w1 w.heap.size 35 2 w1):=Hold.start H0.o (by simp [No32]);have hh0:=(HSt.o.call hb2).call hb3;have k0:=hh0.cell 0 (by omega);have k1:=hh0.cell 1 (by omega);have f0:=hh0.frozen 0;have f1:=hh0.frozen 1;clear k00 k01 f00 f01;dsimp only;go_wp2_with fail;have hh:=((HSt.o.call hb2).call hb3);have hf:=hh.fill2 (.bool b3) (.slice A3 n3 c3);have hg:=((hh.set 0 (.bool b3) (by simp)).set 1 (.slice A3 n3 c3) (by simp));have hs:=((hr3.sn.hset hh 0 (.bool b3)).hset (hh.set 0 (.bool b3) (by simp)) 1 (.slice A3 n3 c3));obtain ⟨r0,r1⟩:=hf.c2;generalize ((w3.setCell ⟨w.heap.size,0,none⟩ (.bool b3)).setCell ⟨w.heap.size,1,none⟩ (.slice A3 n3 c3))=wf at *
 refine bodyPost_ret (v:=.agg #[.bool b3,.slice A3 n3 c3]) (by simp [results,Tryz.results145,go_sem,r0,r1];try rfl) rfl ?_;exact ⟨⟨_,_,_,_,rfl,hr3.sign,hs⟩,HB.o.trans (hg.below (by omega))⟩
theorem num_Sign (w:World) (b:Bool) (A:Option Addr) (n c:Nat) (x:Int) (hx:RZ w b A n c x) (hbx:Big x.natAbs) :
  Calls Tryz.prog 204 #[.agg #[.bool b,.slice A n c]] w fun e w'=>e=.returned (.int .i64 x.sign)∧Below w.heap.size w w':=by
 have HX:=qh hx;have HBX:=qh hbx;clear hx hbx;go_enter Tryz.func204,Tryz.ntmps204;go_wp2_with fail;refine calls_letter (fun w1=>Blk w1 w.heap.size 35 [.bool b,.slice A n c]∧Below w.heap.size w w1) ⟨(Blk.made _ 35 _ _ _ (by simp) rfl),((Below.refl _ _).alloc (by simp;try omega) _)⟩ ?_;rintro w1 ⟨b0,hb⟩;obtain ⟨k00,k01⟩:=b0.c2;have HB:=qh hb;have H0:=qh b0;have hz:=b0.lt;clear hb b0;refine (num_zero _ A n c _ (HX.o.sn.below HB.o ql) HBX.o).mono ?_;rintro e w2 ⟨rfl,hb2⟩;have k0:=(H0.o.below hb2 H0.o.lt).c1;have HB2:=qt HB hb2;have HS:=qh HX.o.sign;clear k00 k01 hb2;rcases Int.lt_trichotomy x 0 with h|h|h
 ·have e1:decide (x.natAbs=0)=false:=by rw [decide_eq_false_iff_not];omega
  have e2:b=true:=by rw [HS.o];simpa using h
  subst e2;rw [e1];have e3:=qh (Int.sign_eq_neg_one_of_neg h);clear h e1;dsimp only
  go_wp2
  go_ret
  exact ⟨by rw [e3.out];rfl,HB2.o⟩
 ·subst h;dsimp only [Int.natAbs_zero,decide_true]
  go_wp2
  go_ret
  exact ⟨rfl,HB2.o⟩
 ·have e1:decide (x.natAbs=0)=false:=by rw [decide_eq_false_iff_not];omega
  have e2:b=false:=by rw [HS.o];simp;omega
  subst e2;rw [e1];have e3:=qh (Int.sign_eq_one_of_pos h);clear h e1;dsimp only
  go_wp2
  go_ret
  exact ⟨by rw [e3.out];rfl,HB2.o⟩
theorem zadd_same {b b':Bool} {x y:Int} (h:b=decide (x<0)) (h':b'=decide (y<0)) (e:b=b'):(if b=true then -((x.natAbs+y.natAbs:Nat):Int) else ((x.natAbs+y.natAbs:Nat):Int))=x+y:=by
 subst h;subst h';by_cases hx:x<0 <;> by_cases hy:y<0 <;> simp only [hx,hy,decide_true,decide_false] at e ⊢ <;> simp at e ⊢ <;> omega
theorem zadd_left {b b':Bool} {x y:Int} (h:b=decide (x<0)) (h':b'=decide (y<0)) (e:¬ b=b') (hle:y.natAbs≤x.natAbs):(if b=true then -((x.natAbs - y.natAbs:Nat):Int) else ((x.natAbs - y.natAbs:Nat):Int))=x+y:=by
 subst h;subst h';by_cases hx:x<0 <;> by_cases hy:y<0 <;> simp only [hx,hy,decide_true,decide_false] at e ⊢ <;> simp at e ⊢ <;> omega
theorem zadd_right {b b':Bool} {x y:Int} (h:b=decide (x<0)) (h':b'=decide (y<0)) (e:¬ b=b') (hle:x.natAbs≤y.natAbs):(if b'=true then -((y.natAbs - x.natAbs:Nat):Int) else ((y.natAbs - x.natAbs:Nat):Int))=x+y:=by
 subst h;subst h';by_cases hx:x<0 <;> by_cases hy:y<0 <;> simp only [hx,hy,decide_true,decide_false] at e ⊢ <;> simp at e ⊢ <;> omega
theorem num_Add (w:World) (b b':Bool) (A A':Option Addr) (n c n' c':Nat) (x y:Int) (hx:RZ w b A n c x) (hy:RZ w b' A' n' c' y) (hbx:Big x.natAbs) (hby:Big y.natAbs) (hbm:Big (x.natAbs+y.natAbs)) :
  Calls Tryz.prog 150 #[.agg #[.bool b,.slice A n c],.agg #[.bool b',.slice A' n' c']] w fun e w'=>RetZ e w' (x+y)∧Below w.heap.size w w':=by
 have HX:=qh hx;have HY:=qh hy;have HBX:=qh hbx;have HBY:=qh hby;have HBM:=qh hbm;clear hx hy hbx hby hbm;go_enter Tryz.func150,Tryz.ntmps150;go_upto_region 1 with fail;refine wp_letter (fun w1=>Blk w1 w.heap.size 35 [.bool b,.slice A n c]∧Blk w1 (w.heap.size+1) 35 [.bool b',.slice A' n' c']∧Blk w1 (w.heap.size+1+1) 35 [.bool false,.slice none 0 0]∧Below w.heap.size w w1) ⟨(((Blk.made _ 35 _ _ _ (by simp) rfl).alloc _).alloc _),((Blk.made _ 35 _ _ _ (by simp) rfl).alloc _),(Blk.made _ 35 _ _ _ (by simp) rfl),((((Below.refl _ _).alloc (by simp;try omega) _).alloc (by simp;try omega) _).alloc (by simp;try omega) _)⟩ ?_;rintro w1 ⟨b0,b1,b2,hb⟩;obtain ⟨k00,k01⟩:=b0.c2;obtain ⟨k10,k11⟩:=b1.c2;obtain ⟨k20,k21,f20,f21⟩:=b2.cf2;have HB:=qh hb;have H0:=qh b0;have H1:=qh b1;have H2:=qh b2;have hz:=b2.lt;clear hb b0 b1 b2;have HX1:Hid (SN w1 A n c x.natAbs):=HX.o.sn.below HB.o ql;have HY1:Hid (SN w1 A' n' c' y.natAbs):=HY.o.sn.below HB.o ql;by_cases hbb:b=b'
 ·have e0:(b == b')=true:=by simp [hbb]
  have HBB:=qh hbb;clear hbb;go_wp2_with fail;clear k20 k21 f20 f21;have HKK:Hid (∀ w',Hold w1 (w.heap.size+1+1) 35 2 w'→w'.cell? ⟨w.heap.size,0,none⟩=some (.bool b)∧w'.cell? ⟨w.heap.size,1,none⟩=some (.slice A n c)∧w'.cell? ⟨w.heap.size+1,0,none⟩=some (.bool b')∧w'.cell? ⟨w.heap.size+1,1,none⟩=some (.slice A' n' c')∧w'.cell? ⟨w.heap.size+1+1,0,none⟩=some (cellAt w' ⟨w.heap.size+1+1,0,none⟩)∧w'.cell? ⟨w.heap.size+1+1,1,none⟩=some (cellAt w' ⟨w.heap.size+1+1,1,none⟩)∧w'.frozen? ⟨w.heap.size+1+1,0,none⟩=false∧w'.frozen? ⟨w.heap.size+1+1,1,none⟩=false∧Hold w1 (w.heap.size+1+1) 35 2 w'):=fun w' h=>⟨(h.blk H0.o (by omega)).cell 0,(h.blk H0.o (by omega)).cell 1,(h.blk H1.o (by omega)).cell 0,(h.blk H1.o (by omega)).cell 1,h.cell 0 (by omega),h.cell 1 (by omega),h.frozen 0,h.frozen 1,h⟩;have HSt:Hid (Hold w1 (w.heap.size+1+1) 35 2 w1):=Hold.start H2.o (by simp [No32])
  go_region_held3 (fun w'=>w'.cell? ⟨w.heap.size,0,none⟩=some (.bool b)∧w'.cell? ⟨w.heap.size,1,none⟩=some (.slice A n c)∧w'.cell? ⟨w.heap.size+1,0,none⟩=some (.bool b')∧w'.cell? ⟨w.heap.size+1,1,none⟩=some (.slice A' n' c')∧w'.cell? ⟨w.heap.size+1+1,0,none⟩=some (cellAt w' ⟨w.heap.size+1+1,0,none⟩)∧w'.cell? ⟨w.heap.size+1+1,1,none⟩=some (cellAt w' ⟨w.heap.size+1+1,1,none⟩)∧w'.frozen? ⟨w.heap.size+1+1,0,none⟩=false∧w'.frozen? ⟨w.heap.size+1+1,1,none⟩=false∧Hold w1 (w.heap.size+1+1) 35 2 w')
   (first|exact HKK.o _ HSt.o.drew|(go_split_ands;first|exact HKK.o _ (Hold.call ‹Hold w1 (w.heap.size+1+1) 35 2 _› hb2)|exact HKK.o _ (Hold.call ‹Hold w1 (w.heap.size+1+1) 35 2 _› hb3)|exact HKK.o _ ((‹Hold w1 (w.heap.size+1+1) 35 2 _›.set 0 _ (by simp)).set 1 _ (by simp))))
   (first|((with_reducible refine (natAdd _ A A' n c n' c' x.natAbs y.natAbs ?_ ?_ HBX.o HBY.o).mono ?_);(refine Hold.sn (W:=w1) (g:=w.heap.size+1+1) (t:=35) (n:=2) ?_ HX1.o;(go_split_ands;assumption));(refine Hold.sn (W:=w1) (g:=w.heap.size+1+1) (t:=35) (n:=2) ?_ HY1.o;(go_split_ands;assumption));rintro e w2 ⟨⟨A2,n2,c2,rfl,hr2⟩,hb2⟩)|((with_reducible refine (num_made _ _ A2 n2 c2 _ hr2 HBM.o).mono ?_);rintro e w3 ⟨⟨b3,A3,n3,c3,rfl,hr3⟩,hb3⟩))
  rw [zadd_same HX.o.sign HY.o.sign HBB.o] at hr3;have hh:=((HSt.o.drew.call hb2).call hb3);have hf:=hh.fill2 (.bool b3) (.slice A3 n3 c3);have hg:=((hh.set 0 (.bool b3) (by simp)).set 1 (.slice A3 n3 c3) (by simp));have hs:=((hr3.sn.hset hh 0 (.bool b3)).hset (hh.set 0 (.bool b3) (by simp)) 1 (.slice A3 n3 c3));obtain ⟨r0,r1⟩:=hf.c2;generalize ((w3.setCell ⟨w.heap.size+1+1,0,none⟩ (.bool b3)).setCell ⟨w.heap.size+1+1,1,none⟩ (.slice A3 n3 c3))=wf at *
  go_wp2
  refine bodyPost_ret (v:=.agg #[.bool b3,.slice A3 n3 c3]) (by simp [results,Tryz.results150,go_sem,r0,r1];try rfl) rfl ?_;exact ⟨⟨_,_,_,_,rfl,hr3.sign,hs⟩,HB.o.trans (hg.below (by omega))⟩
 ·have e0:(b == b')=false:=by simp [hbb]
  have HBB:=qh hbb;clear hbb;have HSt:Hid (Hold w1 (w.heap.size+1+1) 35 2 w1):=Hold.start H2.o (by simp [No32]);by_cases hle:y.natAbs≤x.natAbs
  ·have HLE:=qh hle;clear hle;go_wp2_with fail;refine (natSub _ A A' n c n' c' x.natAbs y.natAbs HX1.o HY1.o HBX.o HBY.o HLE.o).mono ?_;rintro e w2 ⟨⟨A2,n2,c2,rfl,hr2⟩,hb2⟩;have hz2:=hb2.size;have m1:=((H0.o.below hb2 (by omega)).alloc (.cells #[.slice A2 n2 c2] 24)).c1;clear k00 k01 k10 k11 k20 k21 f20 f21;dsimp only;go_wp2_with fail;have hb4:Below w2.heap.size w2 (w2.alloc (.cells #[.slice A2 n2 c2] 24)):=(Below.refl _ _).alloc ql _;refine (num_made _ _ A2 n2 c2 _ (hr2.below hb4 ql) (HBX.o.mono (Nat.sub_le _ _))).mono ?_;rintro e w3 ⟨⟨b3,A3,n3,c3,rfl,hr3⟩,hb3⟩;rw [zadd_left HX.o.sign HY.o.sign HBB.o HLE.o] at hr3;have hh0:=(((HSt.o.call hb2).call hb4).call hb3);have k0:=hh0.cell 0 (by omega);have k1:=hh0.cell 1 (by omega);have f0:=hh0.frozen 0;have f1:=hh0.frozen 1;clear m1;dsimp only;go_wp2_with fail;have hh:=(((HSt.o.call hb2).call hb4).call hb3);have hf:=hh.fill2 (.bool b3) (.slice A3 n3 c3);have hg:=((hh.set 0 (.bool b3) (by simp)).set 1 (.slice A3 n3 c3) (by simp));have hs:=((hr3.sn.hset hh 0 (.bool b3)).hset (hh.set 0 (.bool b3) (by simp)) 1 (.slice A3 n3 c3));obtain ⟨r0,r1⟩:=hf.c2;generalize ((w3.setCell ⟨w.heap.size+1+1,0,none⟩ (.bool b3)).setCell ⟨w.heap.size+1+1,1,none⟩ (.slice A3 n3 c3))=wf at *
   refine bodyPost_ret (v:=.agg #[.bool b3,.slice A3 n3 c3]) (by simp [results,Tryz.results150,go_sem,r0,r1];try rfl) rfl ?_;exact ⟨⟨_,_,_,_,rfl,hr3.sign,hs⟩,HB.o.trans (hg.below (by omega))⟩
  ·have HLE:=qh (Nat.lt_of_not_le hle);clear hle;go_wp2_with fail;refine (natSubNo _ A A' n c n' c' x.natAbs y.natAbs HX1.o HY1.o HBX.o HBY.o HLE.o).mono ?_;rintro e w2 ⟨rfl,hb2⟩;have hz2:=hb2.size;obtain ⟨-,m1⟩:=((H0.o.below hb2 (by omega)).alloc (.cells #[.slice none 0 0] 24)).c2;obtain ⟨m3,m2⟩:=((H1.o.below hb2 (by omega)).alloc (.cells #[.slice none 0 0] 24)).c2;clear k00 k01 k10 k11 k20 k21 f20 f21;dsimp only;go_wp2_with fail;have hb4:Below w2.heap.size w2 (w2.alloc (.cells #[.slice none 0 0] 24)):=(Below.refl _ _).alloc ql _;have hb5:=hb2.trans (hb4.mono hb2.size);refine (natSub _ A' A n' c' n c y.natAbs x.natAbs (HY1.o.below hb5 ql) (HX1.o.below hb5 ql) HBY.o HBX.o (Nat.le_of_lt HLE.o)).mono ?_;rintro e w3 ⟨⟨A3,n3,c3,rfl,hr3⟩,hb3⟩;have hz3:=hb3.size;have hz4:=hb4.size;have m4:=(((H1.o.below hb5 (by omega)).below hb3 (by omega)).alloc (.cells #[.slice A3 n3 c3] 24)).c1;clear m1 m2 m3;dsimp only;go_wp2_with fail;have hb6:Below w3.heap.size w3 (w3.alloc (.cells #[.slice A3 n3 c3] 24)):=(Below.refl _ _).alloc ql _;refine (num_made _ _ A3 n3 c3 _ (hr3.below hb6 ql) (HBY.o.mono (Nat.sub_le _ _))).mono ?_;rintro e w4 ⟨⟨b4,A4,n4,c4,rfl,hr4⟩,hb7⟩;rw [zadd_right HX.o.sign HY.o.sign HBB.o (Nat.le_of_lt HLE.o)] at hr4;have hh0:=((((HSt.o.call hb5).call hb3).call hb6).call hb7);have k0:=hh0.cell 0 (by omega);have k1:=hh0.cell 1 (by omega);have f0:=hh0.frozen 0;have f1:=hh0.frozen 1;clear m4;dsimp only;go_wp2_with fail;have hh:=((((HSt.o.call hb5).call hb3).call hb6).call hb7);have hf:=hh.fill2 (.bool b4) (.slice A4 n4 c4);have hg:=((hh.set 0 (.bool b4) (by simp)).set 1 (.slice A4 n4 c4) (by simp));have hs:=((hr4.sn.hset hh 0 (.bool b4)).hset (hh.set 0 (.bool b4) (by simp)) 1 (.slice A4 n4 c4));obtain ⟨r0,r1⟩:=hf.c2;generalize ((w4.setCell ⟨w.heap.size+1+1,0,none⟩ (.bool b4)).setCell ⟨w.heap.size+1+1,1,none⟩ (.slice A4 n4 c4))=wf at *
   refine bodyPost_ret (v:=.agg #[.bool b4,.slice A4 n4 c4]) (by simp [results,Tryz.results150,go_sem,r0,r1];try rfl) rfl ?_;exact ⟨⟨_,_,_,_,rfl,hr4.sign,hs⟩,HB.o.trans (hg.below (by omega))⟩
end Go.Proofs.YtdgleeglndcjhaaGreatDoor
