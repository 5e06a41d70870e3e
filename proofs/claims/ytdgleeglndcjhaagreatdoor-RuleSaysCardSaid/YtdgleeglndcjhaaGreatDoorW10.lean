import Derived.Test.YtdgleeglndcjhaaGreatDoorW09
set_option linter.unusedSimpArgs false
set_option linter.unusedVariables false
set_option maxHeartbeats 8000000
set_option maxRecDepth 100000
namespace Go.Proofs.YtdgleeglndcjhaaGreatDoor
open Go.RowKit
theorem rule_number_some (w:World) (l:Bs) (n:Nat) (hl:l.length≤1000000) (h:num? l=some n) :
  Calls Tryz.prog 82 #[.string ⟨l.toArray⟩] w fun e w'=>e=.returned (.tuple #[.int .i64 (n:Int),.bool true])∧Below w.heap.size w w':=by
 have:=rule_number w ⟨l.toArray⟩ (by rw [Lib.size_eq];simpa using hl)
 simp only [List.toList_toArray,h,Option.getD_some,Option.isSome_some] at this
 exact this
theorem rule_number_none (w:World) (l:Bs) (hl:l.length≤1000000) (h:num? l=none) :
  Calls Tryz.prog 82 #[.string ⟨l.toArray⟩] w fun e w'=>e=.returned (.tuple #[.int .i64 0,.bool false])∧Below w.heap.size w w':=by
 have:=rule_number w ⟨l.toArray⟩ (by rw [Lib.size_eq];simpa using hl)
 simp only [List.toList_toArray,h,Option.getD_none,Option.isSome_none] at this
 exact this
theorem str_cut_is (w:World) (l:Bs) (a b:Bs) (two:Bool) (hg:GW w) (hl:l.length≤1000000) (h:Lib.cut l [46,46]=(a,b,two)) :
  Calls Tryz.prog 104 #[.string ⟨l.toArray⟩,.string ⟨#[46,46]⟩] w fun e w'=>e=.returned (.tuple #[.string ⟨a.toArray⟩,.string ⟨b.toArray⟩,.bool two])∧Below w.heap.size w w':=by
 have:=str_cut ⟨l.toArray⟩ ⟨#[46,46]⟩ w hg (by rw [Lib.size_eq];simpa using hl)
 simp only [List.toList_toArray,h] at this
 exact this
theorem cut_lens (l sep:Bs):(Lib.cut l sep).1.length≤l.length∧(Lib.cut l sep).2.1.length≤l.length:=by
 unfold Lib.cut
 split
 ·simp;omega
 ·simp
theorem Apart.symm {x y:Value} (h:Apart x y):Apart y x:=by
 unfold Apart at *
 rcases h with h|h
 ·cases hy:y.ownBlock with
  | none=>exact .inl rfl
  | some k=>right;rw [h];simp
 ·right;exact Ne.symm h
def ints (l:List Int):List Value:=l.map (Value.int .i64)
def IntsAre (w:World) (A:Option Addr) (n c:Nat) (l:List Int):Prop:=SlC w (.slice A n c) 1 l.length (ints l)
theorem IntsAre.below {w w':World} {A:Option Addr} {n c B:Nat} {l:List Int} (h:IntsAre w A n c l) (hb:Below B w w') (hB:w.heap.size≤B):IntsAre w' A n c l:=SlC.below h hb hB
def IntsV (w:World) (v:Value) (l:List Int):Prop:=∃ A n c,v=.slice A n c∧IntsAre w A n c l
def OwnI (w:World) (B:Nat) (x:Value) (l:List Int):Prop:=w.ownsRow B 3 1 x l.length (ints l)
theorem OwnI.ints {w:World} {B:Nat} {x:Value} {l:List Int} (h:OwnI w B x l):IntsV w x l:=by
 have h1:=SlC.own h
 obtain ⟨A,c,rfl,-⟩:=h1
 exact ⟨A,_,c,rfl,SlC.own h⟩
theorem OwnI.form {w:World} {B:Nat} {x:Value} {l:List Int} (h:OwnI w B x l):∃ A n c,x=.slice A n c:=by
 obtain ⟨A,n,c,rfl,-⟩:=h.ints
 exact ⟨A,n,c,rfl⟩
structure ListI (w W:World) (g:Nat) (pre:List Value) (vF vT:Value) (F T:List Int):Prop where
 blk:Blk w g 47 (pre ++ [vF,vT])
 fr:OwnI w W.heap.size vF F
 tl:OwnI w W.heap.size vT T
 ap:Apart vF vT
 gr:W.grownBy w (some g)
theorem Blk.kept {w w':World} {g:Nat} {t:TypeId} {l:List Value} {row:Option Nat} (h:Blk w g t l) (hg:w.grownBy w' row) (hne:some g≠row):Blk w' g t l:=by
 have:=h.lt
 unfold Blk at *
 rw [hg.block g this hne];exact h
theorem grown_alloc {w:World} {row:Option Nat} (o:Obj):w.grownBy (w.alloc o) row:=World.grownBy_alloc w o row
theorem ListI.alloc {w W:World} {g:Nat} {pre:List Value} {vF vT:Value} {F T:List Int} (h:ListI w W g pre vF vT F T) (o:Obj):ListI (w.alloc o) W g pre vF vT F T :=
 ⟨h.blk.alloc o,h.fr.alloc o,h.tl.alloc o,h.ap,h.gr.trans (grown_alloc o)⟩
theorem ListI.below {w w' W:World} {g:Nat} {pre:List Value} {vF vT:Value} {F T:List Int} (h:ListI w W g pre vF vT F T) (hb:Below w.heap.size w w'):ListI w' W g pre vF vT F T:=by
 have hg:w.grownBy w' none:=⟨hb.os,hb.tape,hb.output,hb.size,fun k hk _=>hb.block k hk⟩
 refine ⟨h.blk.kept hg (by simp),World.ownsRow.kept h.fr hg ?_,World.ownsRow.kept h.tl hg ?_,h.ap,h.gr.trans ⟨hb.os,hb.tape,hb.output,hb.size,fun k hk _=>hb.block k hk⟩⟩
 ·cases e:vF.ownBlock with
  | none=>exact .inl rfl
  | some k=>exact .inr (by simp)
 ·cases e:vT.ownBlock with
  | none=>exact .inl rfl
  | some k=>exact .inr (by simp)
theorem own_ne {w:World} {B g:Nat} {x:Value} {e:TypeId} {sz n:Nat} {xs:List Value} (h:w.ownsRow B e sz x n xs) (hg:g<B):some g≠x.ownBlock:=by
 intro e
 have:=(h.lt g e.symm).1
 omega
theorem ListI.cells {w W:World} {g:Nat} {l m nt:Value} {vF vT:Value} {F T:List Int} (h:ListI w W g [l,m,nt] vF vT F T) :
  w.cell? ⟨g,3,none⟩=some vF∧w.cell? ⟨g,4,none⟩=some vT∧w.frozen? ⟨g,3,none⟩=false∧w.frozen? ⟨g,4,none⟩=false :=
 ⟨h.blk.cell 3,h.blk.cell 4,h.blk.frozen 3,h.blk.frozen 4⟩
theorem grown_up {W w w1:World} {g:Nat} {row:Option Nat} (h:W.grownBy w (some g)) (hg:w.grownBy w1 row) (hr:∀ k,row=some k→W.heap.size≤k):W.grownBy w1 (some g) :=
 ⟨hg.os.trans h.os,hg.tape.trans h.tape,hg.output.trans h.output,Nat.le_trans h.size hg.size,fun k hk hne=>(hg.block k (Nat.lt_of_lt_of_le hk h.size) (fun e=>by have:=hr k e.symm;omega)).trans (h.block k hk hne)⟩
theorem grown_put {W w:World} {g:Nat} (h:W.grownBy w (some g)) (i:Nat) (u:Value):W.grownBy (w.setCell ⟨g,i,none⟩ u) (some g) :=
 h.trans ⟨rfl,rfl,rfl,by simp,fun k _ hk=>Below.heap_setCell _ _ _ _ (by intro e;exact hk (by simp [e]))⟩
theorem ListI.from {w w1 W:World} {g g' cap:Nat} {l m nt:Value} {vF vT:Value} {F T:List Int} {x:Int} (h:ListI w W g [l,m,nt] vF vT F T) (hgW:g<W.heap.size)
  (hg:w.grownBy w1 vF.ownBlock) (ho:w1.ownsRow W.heap.size 3 1 (.slice (some ⟨g',0,none⟩) (F.length+1) cap) (F.length+1) (ints F ++ [.int .i64 x])) (hat:vF.ownBlock=some g'∨g'=w.heap.size) :
  ListI (w1.setCell ⟨g,3,none⟩ (.slice (some ⟨g',0,none⟩) (F.length+1) cap)) W g [l,m,nt] (.slice (some ⟨g',0,none⟩) (F.length+1) cap) vT (F ++ [x]) T∧w1.cell? ⟨g,3,none⟩=some vF∧w1.cell? ⟨g,4,none⟩=some vT∧w1.frozen? ⟨g,3,none⟩=false∧w1.frozen? ⟨g,4,none⟩=false:=by
 have b1:=h.blk.kept hg (own_ne h.fr hgW)
 have hT:OwnI w1 W.heap.size vT T:=World.ownsRow.kept h.tl hg h.ap.symm
 have hset:w1.grownBy (w1.setCell ⟨g,3,none⟩ (.slice (some ⟨g',0,none⟩) (F.length+1) cap)) (some g):=⟨rfl,rfl,rfl,by simp,fun k _ hk=>Below.heap_setCell _ _ _ _ (by intro e;exact hk (by simp [e]))⟩
 refine ⟨⟨b1.put 3 _,?_,World.ownsRow.kept hT hset (.inr (Ne.symm (own_ne hT hgW))),?_,grown_put (grown_up h.gr hg (fun k hk=>(World.ownsRow.lt h.fr k hk).1)) 3 _⟩,b1.cell 3,b1.cell 4,b1.frozen 3,b1.frozen 4⟩
 ·show World.ownsRow _ _ 3 1 _ (F ++ [x]).length (ints (F ++ [x]))
  rw [List.length_append]
  have e:ints (F ++ [x])=ints F ++ [.int .i64 x]:=by simp [ints]
  rw [e]
  exact World.ownsRow.kept ho hset (.inr (Ne.symm (own_ne ho hgW)))
 ·right
  rcases hat with e|e
  ·show some g'≠_
   rw [← e]
   rcases h.ap with h'|h'
   ·rw [h'] at e;cases e
   ·exact h'
  ·intro e'
   have:=(World.ownsRow.lt h.tl g' e'.symm).2
   omega
theorem ListI.till {w w1 W:World} {g g' cap:Nat} {l m nt:Value} {vF vT:Value} {F T:List Int} {x:Int} (h:ListI w W g [l,m,nt] vF vT F T) (hgW:g<W.heap.size)
  (hg:w.grownBy w1 vT.ownBlock) (ho:w1.ownsRow W.heap.size 3 1 (.slice (some ⟨g',0,none⟩) (T.length+1) cap) (T.length+1) (ints T ++ [.int .i64 x])) (hat:vT.ownBlock=some g'∨g'=w.heap.size) :
  ListI (w1.setCell ⟨g,4,none⟩ (.slice (some ⟨g',0,none⟩) (T.length+1) cap)) W g [l,m,nt] vF (.slice (some ⟨g',0,none⟩) (T.length+1) cap) F (T ++ [x])∧w1.cell? ⟨g,4,none⟩=some vT∧w1.frozen? ⟨g,4,none⟩=false:=by
 have b1:=h.blk.kept hg (own_ne h.tl hgW)
 have hF:OwnI w1 W.heap.size vF F:=World.ownsRow.kept h.fr hg h.ap
 have hset:w1.grownBy (w1.setCell ⟨g,4,none⟩ (.slice (some ⟨g',0,none⟩) (T.length+1) cap)) (some g):=⟨rfl,rfl,rfl,by simp,fun k _ hk=>Below.heap_setCell _ _ _ _ (by intro e;exact hk (by simp [e]))⟩
 refine ⟨⟨b1.put 4 _,World.ownsRow.kept hF hset (.inr (Ne.symm (own_ne hF hgW))),?_,Apart.symm ?_,grown_put (grown_up h.gr hg (fun k hk=>(World.ownsRow.lt h.tl k hk).1)) 4 _⟩,b1.cell 4,b1.frozen 4⟩
 ·show World.ownsRow _ _ 3 1 _ (T ++ [x]).length (ints (T ++ [x]))
  rw [List.length_append]
  have e:ints (T ++ [x])=ints T ++ [.int .i64 x]:=by simp [ints]
  rw [e]
  exact World.ownsRow.kept ho hset (.inr (Ne.symm (own_ne ho hgW)))
 ·right
  rcases hat with e|e
  ·show some g'≠_
   rw [← e]
   rcases h.ap.symm with h'|h'
   ·rw [h'] at e;cases e
   ·exact h'
  ·intro e'
   have:=(World.ownsRow.lt h.fr g' e'.symm).2
   omega
def IntsB (w:World) (B:Nat) (v:Value) (l:List Int):Prop:=IntsV w v l∧∀ k,v.ownBlock=some k→B≤k∧k<w.heap.size
theorem OwnI.intsB {w:World} {B B':Nat} {x:Value} {l:List Int} (h:OwnI w B x l) (hB:B'≤B):IntsB w B' x l:=⟨h.ints,fun k hk=>⟨Nat.le_trans hB (World.ownsRow.lt h k hk).1,(World.ownsRow.lt h k hk).2⟩⟩
theorem IntsB.mono {w:World} {B B':Nat} {v:Value} {l:List Int} (h:IntsB w B v l) (hB:B'≤B):IntsB w B' v l:=⟨h.1,fun k hk=>⟨Nat.le_trans hB (h.2 k hk).1,(h.2 k hk).2⟩⟩
theorem IntsB.kept {w w':World} {B:Nat} {v:Value} {l:List Int} (h:IntsB w B v l) (hs:w.heap.size≤w'.heap.size) (hk:∀ k,v.ownBlock=some k→w'.heap[k]?=w.heap[k]?):IntsB w' B v l:=by
 obtain ⟨⟨A,n,c,rfl,A',c',h1,h2,h3,h4⟩,h5⟩:=h
 refine ⟨⟨A,n,c,rfl,A',c',h1,h2,h3,fun hp=>?_⟩,fun k hk'=>⟨(h5 k hk').1,Nat.lt_of_lt_of_le (h5 k hk').2 hs⟩⟩
 obtain ⟨b,o,h6,h7⟩:=h4 hp
 refine ⟨b,o,h6,fun j x hx=>?_⟩
 rw [← h7 j x hx]
 unfold World.cell?
 rw [hk b (by rw [show A=A' from (Value.slice.inj h1).1,h6];rfl)]
theorem IntsB.set {w:World} {B g:Nat} {v:Value} {l:List Int} (h:IntsB w B v l) (hg:g<B) (i:Nat) (u:Value):IntsB (w.setCell ⟨g,i,none⟩ u) B v l :=
 h.kept (by simp) fun k hk=>Below.heap_setCell _ _ _ _ (by have:=(h.2 k hk).1;simp;omega)
theorem IntsB.below {w w':World} {B:Nat} {v:Value} {l:List Int} (h:IntsB w B v l) (hb:Below w.heap.size w w'):IntsB w' B v l :=
 h.kept hb.size fun k hk=>hb.block k (h.2 k hk).2
theorem IntsV.below {w w':World} {v:Value} {B:Nat} {l:List Int} (h:IntsV w v l) (hb:Below B w w') (hB:w.heap.size≤B):IntsV w' v l:=by
 obtain ⟨A,n,c,rfl,h⟩:=h
 exact ⟨A,n,c,rfl,h.below hb hB⟩
def firsts (L:List (Nat × Nat)):List Int:=L.map fun e=>(e.1:Int)
def seconds (L:List (Nat × Nat)):List Int:=L.map fun e=>(e.2:Int)
def ListPost (w:World) (g:Nat) (pre:List Value) (s:Bs) (e:Ending) (w':World):Prop :=
 ∃ vF vT,Blk w' g 47 (pre ++ [vF,vT])∧w.grownBy w' (some g)∧(∃ A n c,vF=.slice A n c)∧(∃ A n c,vT=.slice A n c) ∧
  ((∃ L,list? s=some L∧e=.returned (.bool true)∧IntsB w' w.heap.size vF (firsts L)∧IntsB w' w.heap.size vT (seconds L))∨(list? s=none∧e=.returned (.bool false)))
def ListW (W:World) (g:Nat) (pre:List Value) (ws:List Bs) (i:Value) (wr:World):Prop :=
 ∃ (k:Nat) (L:List (Nat × Nat)) (vF vT:Value),k≤ws.length∧i=.int .i64 k∧all? item? (ws.take k)=some L∧L.length=k∧ListI wr W g pre vF vT (firsts L) (seconds L)
theorem all?_snoc {α β:Type} {f:α→Option β} {l:List α} {r:List β} {a:α} {b:β} (h:all? f l=some r) (hb:f a=some b):all? f (l ++ [a])=some (r ++ [b]) :=
 all?_append h (by simp [all?,hb])
theorem all?_bad {α β:Type} {f:α→Option β}:∀ {l:List α} {k:Nat} {a:α},l[k]?=some a→f a=none→all? f l=none
 | [],_,_,h,_=>by simp at h
 | b :: l,0,a,h,hf=>by
  have:b=a:=by simpa using h
  subst this
  simp [all?,hf]
 | b :: l,k+1,a,h,hf=>by
  have:=all?_bad (l:=l) (k:=k) (by simpa using h) hf
  unfold all?
  split
  ·rfl
  ·rw [this]
theorem firsts_snoc (L:List (Nat × Nat)) (e:Nat × Nat):firsts (L ++ [e])=firsts L ++ [(e.1:Int)]:=by simp [firsts]
theorem seconds_snoc (L:List (Nat × Nat)) (e:Nat × Nat):seconds (L ++ [e])=seconds L ++ [(e.2:Int)]:=by simp [seconds]
theorem grown_of_below {w w':World} {row:Option Nat} (h:Below w.heap.size w w'):w.grownBy w' row:=⟨h.os,h.tape,h.output,h.size,fun k hk _=>h.block k hk⟩
theorem str_far {w:World} {g b j:Nat} {x:ByteArray} {vs:List Value} (hB:Blk w g 47 vs) (hv:∀ u ∈ vs,∀ x,u≠.string x) (h:w.cell? ⟨b,j,none⟩=some (.string x)):b≠g:=by
 rintro rfl
 rw [hB.cell] at h
 exact hv _ (List.mem_of_getElem? h) x rfl
theorem rule_list (W0 w:World) (g:Nat) (l m:Int) (nt:Bool) (s:ByteArray) (hG:GW W0) (h0:Below W0.heap.size W0 w) (hg0:W0.heap.size≤g)
  (hb:Blk w g 47 [.int .u8 l,.int .i64 m,.bool nt,.slice none 0 0,.slice none 0 0]) (hs:s.size≤1000000) :
  Calls Tryz.prog 83 #[.pointer (some ⟨g,0,none⟩),.string s] w (ListPost w g [.int .u8 l,.int .i64 m,.bool nt] s.data.toList):=by
 have hgW:=hb.lt
 have HX:=qh hb
 have hGw:=hG.below h0 ql
 have HG0:=qh hG
 have H0:=qh h0
 have hsl:s.data.toList.length≤1000000:=by rw [← Lib.size_eq];exact hs
 obtain ⟨i3,hi,hz0,hz1,hz2⟩:=info_parts Tryz_info3
 clear hG h0 hb
 go_enter Tryz.func83,Tryz.ntmps83
 go_wp2_with fail
 refine (str_split s 44 w hGw hs).mono ?_
 rintro e w1 ⟨⟨A,n,c,rfl,hS⟩,hb1⟩
 have hn:=hS.len
 obtain ⟨ws,hws⟩:∃ ws,splitG 44 s.data.toList=ws:=⟨_,rfl⟩
 rw [hws] at hS hn
 have hwl:ws.length≤1000001:=by rw [← hws];have:=splitG_length 44 s.data.toList;omega
 have hwm:∀ t ∈ ws,t.length≤1000000:=by rw [← hws];exact fun t ht=>Nat.le_trans (splitG_mem_len 44 _ t ht) hsl
 have hls:list? s.data.toList=all? item? ws:=by unfold list?;rw [hws]
 have HLS:=qh hls
 have HWM:=qh hwm
 have HS:=qh hS
 have HB1:=qh hb1
 have X1:=qh (HX.out.below hb1 hgW)
 subst hn
 have hlI:(ws.length:Int)≤1000001:=by omega
 have hg1:g<w1.heap.size:=Nat.lt_of_lt_of_le hgW hb1.size
 clear hws hwm hS hb1 hGw hsl hls
 dsimp only
 go_wp2_with fail
 go_loopw [16] (fun i wr=>ListW w1 g [.int .u8 l,.int .i64 m,.bool nt] ws i wr) (fun i _=>ws.length - (intOf i).toNat)
 case atStart =>
  exact ⟨0,[],_,_,Nat.zero_le _,rfl,rfl,rfl,X1.out,World.ownsRow_nil _ _ _ _,World.ownsRow_nil _ _ _ _,.inl rfl,⟨rfl,rfl,rfl,ql,fun k hk _=>rfl⟩⟩
 case round =>
  obtain ⟨k,L,vF,vT,hk,rfl,hL,hLk,hI⟩:=hrel
  by_cases hlt:k<ws.length
  ·obtain ⟨b,o,rfl,hc⟩:=HS.out.at (by omega)
   obtain ⟨t,ht⟩:∃ t,ws[k]?=some t:=⟨ws[k],List.getElem?_eq_getElem hlt⟩
   have hc1:=hc k t ht
   have hck:wr.cell? ⟨b,o+k,none⟩=some (.string ⟨t.toArray⟩) :=
    (hI.gr.cell_far ⟨b,o+k,none⟩ (World.block_lt_of_cell? w1 _ hc1) (by intro e;exact str_far X1.out (by simp) hc1 (Option.some.inj e))).trans hc1
   have htl:=HWM.out t (List.mem_of_getElem? ht)
   have htk:ws.take (k+1)=ws.take k ++ [t]:=by rw [List.take_add_one,ht];rfl
   have hGr:GW wr:=HG0.out.below (below_grown (H0.out.trans (HB1.out.mono H0.out.size)) hI.gr (Nat.le_trans H0.out.size HB1.out.size) (by intro j hj;cases hj;exact hg0)) ql
   have HT:=qh ht
   have HTK:=qh htk
   have HL:=qh hL
   have HI:=qh hI
   have hkI:(k:Int)<(ws.length:Int):=by omega
   have hk0:(0:Int)≤(k:Int):=by omega
   have hgr:=HI.out.gr.size
   clear hc hc1 ht htk hL hI
   obtain ⟨a,bb,two,hcut⟩:∃ a b two,Lib.cut t [46,46]=(a,b,two):=⟨_,_,_,rfl⟩
   have hcl:=cut_lens t [46,46]
   rw [hcut] at hcl
   have hal:a.length≤1000000:=Nat.le_trans hcl.1 htl
   have hbl:bb.length≤1000000:=Nat.le_trans hcl.2 htl
   have HC:=qh hcut
   clear hcl
   have hmx:=maxLen_ge
   cases two
   ·cases hna:num? a with
    | none =>
     have HNA:=qh hna
     clear hna hcut
     go_wp2_with fail
     refine (str_cut_is _ t a bb false hGr htl HC.out).mono ?_
     rintro e w2 ⟨rfl,hb2⟩
     have HI2:=qh (HI.out.below hb2)
     clear hck hb2
     dsimp only
     go_wp2_with fail
     refine (rule_number_none _ a hal HNA.out).mono ?_
     rintro e w3 ⟨rfl,hb3⟩
     have HI9:=qh (HI2.out.below hb3)
     clear hb3
     dsimp only
     go_wp2_with fail
     go_ret
     refine ⟨vF,vT,HI9.out.blk,(grown_of_below HB1.out).trans HI9.out.gr,HI9.out.fr.form,HI9.out.tl.form,.inr ⟨?_,rfl⟩⟩
     rw [HLS.out]
     exact all?_bad HT.out (by unfold item?;rw [HC.out];simp [HNA.out])
    | some f =>
     have hfb:=(num?_some hna).2
     have hff:¬ (f:Int)<(f:Int):=by omega
     have hit:item? t=some (f,f):=by unfold item?;rw [hcut];simp [hna]
     have HIT:=qh hit
     clear hit
     have HNA:=qh hna
     clear hna hcut
     go_wp2_with fail
     refine (str_cut_is _ t a bb false hGr htl HC.out).mono ?_
     rintro e w2 ⟨rfl,hb2⟩
     have HI2:=qh (HI.out.below hb2)
     clear hck hb2
     dsimp only
     go_wp2_with fail
     refine (rule_number_some _ a f hal HNA.out).mono ?_
     rintro e w3 ⟨rfl,hb3⟩
     have HI9:=qh (HI2.out.below hb3)
     clear hb3
     dsimp only
     obtain ⟨c3,c4,d3,d4⟩:=HI9.out.cells
     have hfl:(firsts L).length≤1000001:=by simp only [firsts,List.length_map];omega
     have hsl:(seconds L).length≤1000001:=by simp only [seconds,List.length_map];omega
     go_wp2_with (first
      | (at_builtin;refine wpList_append_lies _ (by rfl) (.tmp 52) (.tmp 54) 45 (by rfl) w1.heap.size 3 i3 (.int .i64 0) 1 8 Tryz.underlying45 hi hz0 hz1 hz2 rfl (by decide) vF (firsts L).length (ints (firsts L)) (by rfl) (World.ownsRow.alloc HI9.out.fr _) ⟨w3.heap.size,0,none⟩ 1 1 [.int .i64 (f:Nat)] (by rfl) rfl (cell_one_new _ _ _) (by simp [Value.oneCell']) (by omega) (by omega) (by omega) (by have:=HI9.out.gr.size;simp;omega) (w3.heap.size+1) (by simp) ?_;intro g1 cap1 w5 hown hgrow hat hlt5;obtain ⟨hf,k3,k4,f3,f4⟩:=ListI.from (HI9.out.alloc _) hg1 hgrow hown (hat.imp id fun h=>by rw [h];simp);have HF:=qh hf;have hz5:=HF.out.gr.size;clear hown hgrow hat hf c3 c4 d3 d4)
      | (at_builtin;refine wpList_append_lies _ (by rfl) (.tmp 62) (.tmp 64) 45 (by rfl) w1.heap.size 3 i3 (.int .i64 0) 1 8 Tryz.underlying45 hi hz0 hz1 hz2 rfl (by decide) vT (seconds L).length (ints (seconds L)) (by rfl) (World.ownsRow.alloc HF.out.tl _) ⟨w5.heap.size,0,none⟩ 1 1 [.int .i64 (f:Nat)] (by rfl) rfl (by simpa using cell_one_new (w5.setCell ⟨g,3,none⟩ (.slice (some ⟨g1,0,none⟩) ((firsts L).length+1) cap1)) (.int .i64 (f:Nat)) 3) (by simp [Value.oneCell']) (by omega) (by omega) (by omega) (by simp at hz5 ⊢;omega) (w5.heap.size+1) (by simp) ?_;intro g2 cap2 w6 hown hgrow hat hlt6;obtain ⟨hf,k5,f5⟩:=ListI.till (HF.out.alloc _) hg1 hgrow hown (hat.imp id fun h=>by rw [h];simp);have HF2:=qh hf;clear hown hgrow hat hf k3 k4 f3 f4))
     go_roundw
     case rel =>
      refine ⟨k+1,L ++ [(f,f)],.slice (some ⟨g1,0,none⟩) ((firsts L).length+1) cap1,.slice (some ⟨g2,0,none⟩) ((seconds L).length+1) cap2,by omega,by go_num,?_,by simp [hLk],?_⟩
      ·rw [HTK.out];exact all?_snoc HL.out HIT.out
      ·rw [firsts_snoc,seconds_snoc];exact HF2.out
     case measure=>simp [intOf];omega
   ·cases hna:num? a with
    | none =>
     have HNA:=qh hna
     clear hna hcut
     go_wp2_with fail
     refine (str_cut_is _ t a bb true hGr htl HC.out).mono ?_
     rintro e w2 ⟨rfl,hb2⟩
     have HI2:=qh (HI.out.below hb2)
     clear hck hb2
     dsimp only
     go_wp2_with fail
     refine (rule_number_none _ a hal HNA.out).mono ?_
     rintro e w3 ⟨rfl,hb3⟩
     have HI9:=qh (HI2.out.below hb3)
     clear hb3
     dsimp only
     go_wp2_with fail
     go_ret
     refine ⟨vF,vT,HI9.out.blk,(grown_of_below HB1.out).trans HI9.out.gr,HI9.out.fr.form,HI9.out.tl.form,.inr ⟨?_,rfl⟩⟩
     rw [HLS.out]
     exact all?_bad HT.out (by unfold item?;rw [HC.out];simp [HNA.out])
    | some f =>
     have hfb:=(num?_some hna).2
     cases hnb:num? bb with
     | none =>
      have HNB:=qh hnb
      clear hnb
      have HNA:=qh hna
      clear hna hcut
      go_wp2_with fail
      refine (str_cut_is _ t a bb true hGr htl HC.out).mono ?_
      rintro e w2 ⟨rfl,hb2⟩
      have HI2:=qh (HI.out.below hb2)
      clear hck hb2
      dsimp only
      go_wp2_with fail
      refine (rule_number_some _ a f hal HNA.out).mono ?_
      rintro e w3 ⟨rfl,hb3⟩
      have HI3:=qh (HI2.out.below hb3)
      clear hb3
      dsimp only
      go_wp2_with fail
      refine (rule_number_none _ bb hbl HNB.out).mono ?_
      rintro e w4 ⟨rfl,hb4⟩
      have HI9:=qh (HI3.out.below hb4)
      clear hb4
      dsimp only
      go_wp2_with fail
      go_ret
      refine ⟨vF,vT,HI9.out.blk,(grown_of_below HB1.out).trans HI9.out.gr,HI9.out.fr.form,HI9.out.tl.form,.inr ⟨?_,rfl⟩⟩
      rw [HLS.out]
      exact all?_bad HT.out (by unfold item?;rw [HC.out];simp [HNA.out,HNB.out])
     | some x =>
      have hxb:=(num?_some hnb).2
      by_cases hfx:f≤x
      ·have hff:¬ (x:Int)<(f:Int):=by omega
       have hit:item? t=some (f,x):=by unfold item?;rw [hcut];simp [hna,hnb,hfx]
       have HIT:=qh hit
       clear hit
       have HNB:=qh hnb
       clear hnb
       have HNA:=qh hna
       clear hna hcut
       go_wp2_with fail
       refine (str_cut_is _ t a bb true hGr htl HC.out).mono ?_
       rintro e w2 ⟨rfl,hb2⟩
       have HI2:=qh (HI.out.below hb2)
       clear hck hb2
       dsimp only
       go_wp2_with fail
       refine (rule_number_some _ a f hal HNA.out).mono ?_
       rintro e w3 ⟨rfl,hb3⟩
       have HI3:=qh (HI2.out.below hb3)
       clear hb3
       dsimp only
       go_wp2_with fail
       refine (rule_number_some _ bb x hbl HNB.out).mono ?_
       rintro e w4 ⟨rfl,hb4⟩
       have HI9:=qh (HI3.out.below hb4)
       clear hb4
       dsimp only
       obtain ⟨c3,c4,d3,d4⟩:=HI9.out.cells
       have hfl:(firsts L).length≤1000001:=by simp only [firsts,List.length_map];omega
       have hsl:(seconds L).length≤1000001:=by simp only [seconds,List.length_map];omega
       go_wp2_with (first
        | (at_builtin;refine wpList_append_lies _ (by rfl) (.tmp 52) (.tmp 54) 45 (by rfl) w1.heap.size 3 i3 (.int .i64 0) 1 8 Tryz.underlying45 hi hz0 hz1 hz2 rfl (by decide) vF (firsts L).length (ints (firsts L)) (by rfl) (World.ownsRow.alloc HI9.out.fr _) ⟨w4.heap.size,0,none⟩ 1 1 [.int .i64 (f:Nat)] (by rfl) rfl (cell_one_new _ _ _) (by simp [Value.oneCell']) (by omega) (by omega) (by omega) (by have:=HI9.out.gr.size;simp;omega) (w4.heap.size+1) (by simp) ?_;intro g1 cap1 w5 hown hgrow hat hlt5;obtain ⟨hf,k3,k4,f3,f4⟩:=ListI.from (HI9.out.alloc _) hg1 hgrow hown (hat.imp id fun h=>by rw [h];simp);have HF:=qh hf;have hz5:=HF.out.gr.size;clear hown hgrow hat hf c3 c4 d3 d4)
        | (at_builtin;refine wpList_append_lies _ (by rfl) (.tmp 62) (.tmp 64) 45 (by rfl) w1.heap.size 3 i3 (.int .i64 0) 1 8 Tryz.underlying45 hi hz0 hz1 hz2 rfl (by decide) vT (seconds L).length (ints (seconds L)) (by rfl) (World.ownsRow.alloc HF.out.tl _) ⟨w5.heap.size,0,none⟩ 1 1 [.int .i64 (x:Nat)] (by rfl) rfl (by simpa using cell_one_new (w5.setCell ⟨g,3,none⟩ (.slice (some ⟨g1,0,none⟩) ((firsts L).length+1) cap1)) (.int .i64 (x:Nat)) 3) (by simp [Value.oneCell']) (by omega) (by omega) (by omega) (by simp at hz5 ⊢;omega) (w5.heap.size+1) (by simp) ?_;intro g2 cap2 w6 hown hgrow hat hlt6;obtain ⟨hf,k5,f5⟩:=ListI.till (HF.out.alloc _) hg1 hgrow hown (hat.imp id fun h=>by rw [h];simp);have HF2:=qh hf;clear hown hgrow hat hf k3 k4 f3 f4))
       go_roundw
       case rel =>
        refine ⟨k+1,L ++ [(f,x)],.slice (some ⟨g1,0,none⟩) ((firsts L).length+1) cap1,.slice (some ⟨g2,0,none⟩) ((seconds L).length+1) cap2,by omega,by go_num,?_,by simp [hLk],?_⟩
        ·rw [HTK.out];exact all?_snoc HL.out HIT.out
        ·rw [firsts_snoc,seconds_snoc];exact HF2.out
       case measure=>simp [intOf];omega
      ·have hff:(x:Int)<(f:Int):=by omega
       have HFX:=qh hfx
       clear hfx
       have HNB:=qh hnb
       clear hnb
       have HNA:=qh hna
       clear hna hcut
       go_wp2_with fail
       refine (str_cut_is _ t a bb true hGr htl HC.out).mono ?_
       rintro e w2 ⟨rfl,hb2⟩
       have HI2:=qh (HI.out.below hb2)
       clear hck hb2
       dsimp only
       go_wp2_with fail
       refine (rule_number_some _ a f hal HNA.out).mono ?_
       rintro e w3 ⟨rfl,hb3⟩
       have HI3:=qh (HI2.out.below hb3)
       clear hb3
       dsimp only
       go_wp2_with fail
       refine (rule_number_some _ bb x hbl HNB.out).mono ?_
       rintro e w4 ⟨rfl,hb4⟩
       have HI9:=qh (HI3.out.below hb4)
       clear hb4
       dsimp only
       go_wp2_with fail
       go_ret
       refine ⟨vF,vT,HI9.out.blk,(grown_of_below HB1.out).trans HI9.out.gr,HI9.out.fr.form,HI9.out.tl.form,.inr ⟨?_,rfl⟩⟩
       rw [HLS.out]
       exact all?_bad HT.out (by unfold item?;rw [HC.out];simp [HNA.out,HNB.out,HFX.out])
  ·have hk2:k=ws.length:=by omega
   subst hk2
   rw [List.take_length] at hL
   have HL:=qh hL
   have HI:=qh hI
   have hkI:¬ (ws.length:Int)<(ws.length:Int):=by omega
   clear hL hI
   go_wp2_with fail
   go_ret
   exact ⟨vF,vT,HI.out.blk,(grown_of_below HB1.out).trans HI.out.gr,HI.out.fr.form,HI.out.tl.form,.inl ⟨L,by rw [HLS.out];exact HL.out,rfl,HI.out.fr.intsB HB1.out.size,HI.out.tl.intsB HB1.out.size⟩⟩
end Go.Proofs.YtdgleeglndcjhaaGreatDoor
