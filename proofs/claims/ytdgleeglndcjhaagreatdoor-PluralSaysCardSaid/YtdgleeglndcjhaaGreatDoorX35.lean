import Derived.Test.YtdgleeglndcjhaaGreatDoorX33
import Derived.Test.YtdgleeglndcjhaaGreatDoorX34
import Derived.Test.YtdgleeglndcjhaaGreatDoorX07
set_option linter.unusedSimpArgs false
set_option linter.unusedVariables false
set_option maxHeartbeats 32000000
set_option maxRecDepth 100000
namespace Go.Proofs.YtdgleeglndcjhaaGreatDoor
open Go.RowKit
theorem condX_short {ws:List Bs} (h:ws.length<3):condX ws=none:=by
 unfold condX;split
 ·simp at h;omega
 ·rfl
theorem three_of:∀ {ws:List Bs},¬ ws.length<3→∃ w0 q t r,ws=w0 :: q :: t :: r
 | [],h=>absurd (by simp) h
 | [a],h=>absurd (by simp) h
 | [a,b],h=>absurd (by simp) h
 | a :: b :: d :: r,_=>⟨a,b,d,r,rfl⟩
theorem one_of:∀ {w:Bs},w.length=1→∃ l,w=[l]
 | [l],_=>⟨l,rfl⟩
theorem condX_letter {w0 q t:Bs} {r:List Bs} (h:w0.length≠1):condX (w0 :: q :: t :: r)=none:=by
 match w0,h with
 | [],_=>rfl
 | [a],h=>exact absurd rfl h
 | a :: b :: c,_=>rfl
theorem condX_bad {l:UInt8} {q t:Bs} {r:List Bs} (h:l ∉ letters):condX ([l] :: q :: t :: r)=none:=by simp [condX,h]
theorem condX_plain {l:UInt8} {q t:Bs} {r:List Bs} (h:l ∈ letters) (hq:q≠[37]):condX ([l] :: q :: t :: r)=(tail? l.toNat 0 [q,t]).map fun c=>(c,3):=by simp [condX,h,hq]
theorem condX_mod_none {l:UInt8} {t:Bs} {r:List Bs} (h:l ∈ letters) (ht:num? t=none∨num? t=some 0∨r.length<2):condX ([l] :: [37] :: t :: r)=none:=by
 simp only [condX,h,if_true];rcases ht with e|e|e
 ·rw [e]
 ·rw [e];rfl
 ·cases num? t with
  | none=>rfl
  | some m =>
   simp only;split
   ·rfl
   ·match r,e with
    | [],_=>rfl
    | [a],_=>rfl
theorem condX_mod {l:UInt8} {t q' t':Bs} {r:List Bs} {m:Nat} (h:l ∈ letters) (ht:num? t=some m) (hm:m≠0):condX ([l] :: [37] :: t :: q' :: t' :: r)=(tail? l.toNat m [q',t']).map fun c=>(c,5):=by simp [condX,h,ht,hm]
theorem tail_none {l m:Nat} {q t:Bs} (h1:q≠[61]) (h2:q≠[33,61]):tail? l m [q,t]=none:=by simp [tail?,h1,h2]
theorem tail_list {l m:Nat} {q t:Bs} (h:q=[61]∨q=[33,61]):tail? l m [q,t]=(list? t).map (mkC l m (q == [33,61])):=by
 simp only [tail?,h,if_true];cases list? t with
 | none=>rfl
 | some L=>simp only [Option.map_some];congr 2;rw [Bool.eq_iff_iff];simp
def item2 (a b:Bs):Option (Nat × Nat):=match num? a with
 | none=>none
 | some x=>match num? b with
  | none=>none
  | some y=>if x≤y then some (x,y) else none
theorem item_whole {t:Bs} (h:Lib.index t [46,46]=-1):item? t=item2 t t:=by
 unfold item? item2 Lib.cut;rw [h];simp only [show ¬ (0:Int)≤-1 by decide,if_false,Bool.false_eq_true];cases num? t <;> rfl
theorem item_cut {t:Bs} {k:Nat} (h:Lib.index t [46,46]=(k:Int)):item? t=item2 (t.take k) (t.drop (k+2)):=by
 unfold item? item2 Lib.cut;rw [h];simp only [show (0:Int)≤(k:Int) by omega,if_true,Int.toNat_natCast]
 rfl
theorem occ_two (t:Bs) (j:Nat):Lib.occAt t [46,46] j=decide (t[j]?=some 46∧t[j+1]?=some 46):=by
 unfold Lib.occAt
 induction t generalizing j with
 | nil=>simp
 | cons x l ih =>
  cases j with
  | zero =>
   cases l with
   | nil=>simp [List.isPrefixOf]
   | cons y l =>
    rw [Bool.eq_iff_iff];simp [List.isPrefixOf];constructor
    ·rintro ⟨rfl,rfl⟩;exact ⟨rfl,rfl⟩
    ·rintro ⟨rfl,rfl⟩;exact ⟨rfl,rfl⟩
  | succ j=>simpa using ih j
theorem index_two {t:Bs} {k:Nat} (h:Lib.occAt t [46,46] k=true) (hn:∀ j,j<k→Lib.occAt t [46,46] j=false) (hk:k+1<t.length):Lib.index t [46,46]=(k:Int):=Lib.index_first (by omega) h hn
theorem index_no {t:Bs} {k:Nat} (hk:t.length≤k+1) (hn:∀ j,j<k→Lib.occAt t [46,46] j=false):Lib.index t [46,46]=-1:=Lib.index_none (fun j hj=>by
 rcases Nat.lt_or_ge j k with h|h
 ·exact hn j h
 ·rw [occ_two];refine decide_eq_false ?_;rintro ⟨-,h2⟩;have:=(List.getElem?_eq_some_iff.1 h2).1
  omega)
structure LK (w W:World) (g:Nat) (pre:List Value) (cF cT vF vT:Value) (F T:List Int):Prop where
 blk:Blk w g 118 (pre ++ [cF,cT])
 fr:OwnI w W.heap.size vF F
 tl:OwnI w W.heap.size vT T
 ap:Apart vF vT
 gr:W.grownBy w (some g)
theorem OwnI.below {w w':World} {B:Nat} {x:Value} {l:List Int} (h:OwnI w B x l) (hb:Below w.heap.size w w'):OwnI w' B x l:=own_kept_below h hb
theorem LK.below {w w' W:World} {g:Nat} {pre:List Value} {cF cT vF vT:Value} {F T:List Int} (h:LK w W g pre cF cT vF vT F T) (hb:Below w.heap.size w w'):LK w' W g pre cF cT vF vT F T :=
 ⟨h.blk.below hb h.blk.lt,h.fr.below hb,h.tl.below hb,h.ap,h.gr.trans ⟨hb.os,hb.tape,hb.output,hb.size,fun k hk _=>hb.block k hk⟩⟩
theorem LK.alloc {w W:World} {g:Nat} {pre:List Value} {cF cT vF vT:Value} {F T:List Int} (h:LK w W g pre cF cT vF vT F T) (o:Obj):LK (w.alloc o) W g pre cF cT vF vT F T:=h.below ((Below.refl _ _).alloc ql _)
theorem ints_snoc (F:List Int) (x:Int):ints (F ++ [x])=ints F ++ [.int .i64 x]:=by simp [ints]
theorem LK.pushF {w w1 W:World} {g g' cap:Nat} {pre:List Value} {cF cT vF vT:Value} {F T:List Int} {x:Int} (h:LK w W g pre cF cT vF vT F T) (hgW:g<W.heap.size)
  (hg:w.grownBy w1 vF.ownBlock) (ho:w1.ownsRow W.heap.size 3 1 (.slice (some ⟨g',0,none⟩) (F.length+1) cap) (F.length+1) (ints F ++ [.int .i64 x])) (hat:vF.ownBlock=some g'∨w.heap.size≤g') :
  LK w1 W g pre cF cT (.slice (some ⟨g',0,none⟩) (F.length+1) cap) vT (F ++ [x]) T:=by
 refine ⟨h.blk.kept hg (own_ne h.fr hgW),?_,World.ownsRow.kept h.tl hg h.ap.symm,?_,grown_up h.gr hg (fun k hk=>(World.ownsRow.lt h.fr k hk).1)⟩
 ·unfold OwnI;rw [List.length_append,ints_snoc];exact ho
 ·right;rcases hat with e|e
  ·show some g'≠_;rw [← e];rcases h.ap with h'|h'
   ·rw [h'] at e;cases e
   ·exact h'
  ·intro e';have:=(World.ownsRow.lt h.tl g' e'.symm).2;omega
theorem LK.pushT {w w1 W:World} {g g' cap:Nat} {pre:List Value} {cF cT vF vT:Value} {F T:List Int} {x:Int} (h:LK w W g pre cF cT vF vT F T) (hgW:g<W.heap.size)
  (hg:w.grownBy w1 vT.ownBlock) (ho:w1.ownsRow W.heap.size 3 1 (.slice (some ⟨g',0,none⟩) (T.length+1) cap) (T.length+1) (ints T ++ [.int .i64 x])) (hat:vT.ownBlock=some g'∨w.heap.size≤g') :
  LK w1 W g pre cF cT vF (.slice (some ⟨g',0,none⟩) (T.length+1) cap) F (T ++ [x]):=by
 refine ⟨h.blk.kept hg (own_ne h.tl hgW),World.ownsRow.kept h.fr hg h.ap,?_,Apart.symm ?_,grown_up h.gr hg (fun k hk=>(World.ownsRow.lt h.tl k hk).1)⟩
 ·unfold OwnI;rw [List.length_append,ints_snoc];exact ho
 ·right;rcases hat with e|e
  ·show some g'≠_;rw [← e];rcases h.ap.symm with h'|h'
   ·rw [h'] at e;cases e
   ·exact h'
  ·intro e';have:=(World.ownsRow.lt h.fr g' e'.symm).2;omega
theorem LK.sets {w W:World} {g:Nat} {l m nt:Value} {cF cT vF vT:Value} {F T:List Int} (h:LK w W g [l,m,nt] cF cT vF vT F T) (hgW:g<W.heap.size):LK ((w.setCell ⟨g,3,none⟩ vF).setCell ⟨g,4,none⟩ vT) W g [l,m,nt] vF vT vF vT F T:=by
 have hset:w.grownBy ((w.setCell ⟨g,3,none⟩ vF).setCell ⟨g,4,none⟩ vT) (some g):=⟨rfl,rfl,rfl,by simp,fun k _ hk=>by
  have hne:k≠g:=by intro e;exact hk (by simp [e])
  rw [Below.heap_setCell _ _ _ _ hne,Below.heap_setCell _ _ _ _ hne]⟩
 exact ⟨(h.blk.put 3 vF).put 4 vT,World.ownsRow.kept h.fr hset (.inr (Ne.symm (own_ne h.fr hgW))),World.ownsRow.kept h.tl hset (.inr (Ne.symm (own_ne h.tl hgW))),h.ap,h.gr.trans hset⟩
theorem LK.cells {w W:World} {g:Nat} {l m nt cF cT vF vT:Value} {F T:List Int} (h:LK w W g [l,m,nt] cF cT vF vT F T):w.cell? ⟨g,3,none⟩=some cF∧w.cell? ⟨g,4,none⟩=some cT:=⟨h.blk.cell 3,h.blk.cell 4⟩
theorem tailQ_step {P:Program} {o:Oper} {Q:Exit→Act→World→Prop} {a a':Act} {w w':World} (h:∀ (K:Act→World→Prop) (Q':Exit→Act→World→Prop),K a' w'→o.wp P a w K Q') (k:Q .normal a' w'):TailQ P o Q .normal a w:=h _ _ k
def CondP (w:World) (ws:List Bs) (e:Ending) (w':World):Prop :=
 ((condX ws=none∧e=.returned (.tuple #[.agg #[.int .u8 0,.int .i64 0,.bool false,.slice none 0 0,.slice none 0 0],.int .i64 0,.bool false])) ∨
 (∃ d k vF vT,condX ws=some (d,k)∧e=.returned (.tuple #[.agg #[.int .u8 (d.letter:Int),.int .i64 d.mod,.bool d.nt,vF,vT],.int .i64 (k:Nat),.bool true])∧IntsOk w' w.heap.size (d,vF,vT)))∧Below w.heap.size w w'
abbrev zero5:List Value:=[.int .u8 0,.int .i64 0,.bool false,.slice none 0 0,.slice none 0 0]
theorem five_far {w:World} {g b j l:Nat} {m:Int} {nt:Bool} {A A':Option Addr} {n c n' c':Nat} {x:ByteArray} (hB:Blk w g 118 [.int .u8 (l:Int),.int .i64 m,.bool nt,.slice A n c,.slice A' n' c']) (h:w.cell? ⟨b,j,none⟩=some (.string x)):b≠g:=by
 rintro rfl;rw [hB.cell] at h;have:=List.mem_of_getElem? h;simp at this
theorem ref_cond (w:World) (A:Option Addr) (n c:Nat) (ws:List Bs) (h:StrsAre w A n c ws) (hl:ws.length≤100000) (hm:∀ t ∈ ws,t.length≤100000) :
  Calls Tryz.prog 66 #[.slice A n c] w (CondP w ws):=by
 obtain rfl:n=ws.length:=h.len;have HX:=qh h;have HM:=qh hm;have hlI:(ws.length:Int)≤100000:=by omega
 obtain ⟨i3,hi3,hz0,hz1,hz2⟩:=info_parts Tryz_info3';have hmx:=maxLen_ge;clear h hm;by_cases h3:ws.length<3
 ·have h3I:(ws.length:Int)<3:=by omega
  have HN:=qh (condX_short h3);clear h3;go_enter Tryz.func66,Tryz.ntmps66;go_upto_region 1 with fail;refine wp_letter (fun w1=>Blk w1 w.heap.size 118 zero5∧Below w.heap.size w w1) ⟨Blk.made _ 118 _ _ _ rfl rfl,(Below.refl _ _).alloc ql _⟩ ?_;rintro w1 ⟨b0,hb⟩;have K0:=qh b0;have HB:=qh hb;clear b0 hb;obtain ⟨q0,q1,q2,q3,q4,f0,f1,f2,f3,f4⟩:=K0.o.cf5;go_wp2_with fail;have hf:=(((((K0.o.put 0 (.int .u8 0)).put 1 (.int .i64 0)).put 2 (.bool false)).put 3 (.slice none 0 0)).put 4 (.slice none 0 0));have hbf:=(below_set (below_set (below_set (below_set (below_set HB.o w.heap.size 0 ql (.int .u8 0)) w.heap.size 1 ql (.int .i64 0)) w.heap.size 2 ql (.bool false)) w.heap.size 3 ql (.slice none 0 0)) w.heap.size 4 ql (.slice none 0 0));simp only [M0,M1] at hf;generalize (((((w1.setCell ⟨w.heap.size,0,none⟩ (.int .u8 0)).setCell ⟨w.heap.size,1,none⟩ (.int .i64 0)).setCell ⟨w.heap.size,2,none⟩ (.bool false)).setCell ⟨w.heap.size,3,none⟩ (.slice none 0 0)).setCell ⟨w.heap.size,4,none⟩ (.slice none 0 0))=wf at *
  obtain ⟨r0,r1,r2,r3,r4⟩:=hf.c5;refine bodyPost_ret (v:=.tuple #[.agg #[.int .u8 0,.int .i64 0,.bool false,.slice none 0 0,.slice none 0 0],.int .i64 0,.bool false]) (by simp [results,Tryz.results66,go_sem,r0,r1,r2,r3,r4];try rfl) rfl ?_;exact ⟨.inl ⟨HN.o,rfl⟩,hbf⟩
 have h3I:¬ (ws.length:Int)<3:=by omega
 obtain ⟨w0,q,t,r,hws⟩:=three_of h3;have HWS:=qh hws;obtain ⟨b,o,rfl,hcell⟩:=HX.o.at (by rw [hws];simp);have HC:Hid (∀ (w':World) (j:Nat) (x:Bs),Below w.heap.size w w'→ws[j]?=some x→w'.cell? ⟨b,o+j,none⟩=some (.string ⟨x.toArray⟩)):=fun w' j x hb hx=>(hb.cell (World.block_lt_of_cell? w _ (hcell j x hx))).trans (hcell j x hx);have e0:ws[0]?=some w0:=by rw [hws];rfl
 have e1:ws[1]?=some q:=by rw [hws];rfl
 have e2:ws[2]?=some t:=by rw [hws];rfl
 have hw0l:=HM.o w0 (List.mem_of_getElem? e0);have hql:=HM.o q (List.mem_of_getElem? e1);have htl:=HM.o t (List.mem_of_getElem? e2);have E0:=qh e0;have E1:=qh e1;have E2:=qh e2;have hn1:(1:Int)<(ws.length:Int):=by omega
 have hn2:(2:Int)<(ws.length:Int):=by omega
 have hn0:(0:Int)<(ws.length:Int):=by omega
 clear hws hcell e0 e1 e2 h3;by_cases h1:w0.length=1
 case neg =>
  have h1I:((w0.length:Int) != 1)=true:=by simp only [bne,Bool.not_eq_true',beq_eq_false_iff_ne];omega
  have HN:Hid (condX ws=none):=by show _=_;rw [HWS.o];exact condX_letter h1
  have k0:w.cell? ⟨b,o,none⟩=some (.string ⟨w0.toArray⟩):=by simpa using HC.o w 0 w0 (Below.refl _ _) E0.o
  clear h1;go_enter Tryz.func66,Tryz.ntmps66;go_upto_region 1 with fail;refine wp_letter (fun w1=>Blk w1 w.heap.size 118 zero5∧Below w.heap.size w w1) ⟨Blk.made _ 118 _ _ _ rfl rfl,(Below.refl _ _).alloc ql _⟩ ?_;rintro w1 ⟨b0,hb⟩;have K0:=qh b0;have HB:=qh hb;clear k0;have k0:w1.cell? ⟨b,o,none⟩=some (.string ⟨w0.toArray⟩):=by simpa using HC.o w1 0 w0 hb E0.o
  clear b0 hb;obtain ⟨q0,q1,q2,q3,q4,f0,f1,f2,f3,f4⟩:=K0.o.cf5;go_wp2_with fail;have hf:=(((((K0.o.put 0 (.int .u8 0)).put 1 (.int .i64 0)).put 2 (.bool false)).put 3 (.slice none 0 0)).put 4 (.slice none 0 0));have hbf:=(below_set (below_set (below_set (below_set (below_set HB.o w.heap.size 0 ql (.int .u8 0)) w.heap.size 1 ql (.int .i64 0)) w.heap.size 2 ql (.bool false)) w.heap.size 3 ql (.slice none 0 0)) w.heap.size 4 ql (.slice none 0 0));simp only [M0,M1] at hf;generalize (((((w1.setCell ⟨w.heap.size,0,none⟩ (.int .u8 0)).setCell ⟨w.heap.size,1,none⟩ (.int .i64 0)).setCell ⟨w.heap.size,2,none⟩ (.bool false)).setCell ⟨w.heap.size,3,none⟩ (.slice none 0 0)).setCell ⟨w.heap.size,4,none⟩ (.slice none 0 0))=wf at *
  obtain ⟨r0,r1,r2,r3,r4⟩:=hf.c5;refine bodyPost_ret (v:=.tuple #[.agg #[.int .u8 0,.int .i64 0,.bool false,.slice none 0 0,.slice none 0 0],.int .i64 0,.bool false]) (by simp [results,Tryz.results66,go_sem,r0,r1,r2,r3,r4];try rfl) rfl ?_;exact ⟨.inl ⟨HN.o,rfl⟩,hbf⟩
 obtain ⟨l,rfl⟩:=one_of h1;obtain ⟨lt,hlt⟩:∃ lt,l.toNat=lt:=⟨_,rfl⟩;have hlt6:lt<256:=by rw [← hlt];exact UInt8.toNat_lt _
 have HLT:=qh hlt;obtain ⟨hk0,ek0⟩:=ba_get [l] 0 l rfl;have hidx:((⟨([l]:Bs).toArray⟩:ByteArray)[0]).toNat=lt:=by rw [ek0,hlt]
 clear h1 hw0l ek0;go_enter Tryz.func66,Tryz.ntmps66;go_upto_region 1 with fail;refine wp_letter (fun w1=>Blk w1 w.heap.size 118 zero5∧Below w.heap.size w w1) ⟨Blk.made _ 118 _ _ _ rfl rfl,(Below.refl _ _).alloc ql _⟩ ?_;rintro w1 ⟨b0,hb⟩;have K0:=qh b0;have HB:=qh hb;have k0:w1.cell? ⟨b,o,none⟩=some (.string ⟨([l]:Bs).toArray⟩):=by simpa using HC.o w1 0 [l] hb E0.o
 have hz:=b0.lt;clear b0 hb;go_upto_region 4 with fail;refine wp_letter (fun w2=>Blk w2 w.heap.size 118 zero5∧Blk w2 w1.heap.size 118 [.int .u8 (lt:Int),.int .i64 0,.bool false,.slice none 0 0,.slice none 0 0]∧Below w.heap.size w w2) ⟨K0.o.alloc _,Blk.made _ 118 _ _ _ rfl rfl,HB.o.alloc HB.o.size _⟩ ?_;rintro w2 ⟨b0,b5,hb⟩;have hg5:w.heap.size<w1.heap.size:=hz;clear K0 HB k0 hz hlt hidx;generalize w1.heap.size=g5 at *
 have K0:=qh b0;have K5:=qh b5;have HB:=qh hb;have k50:=b5.c1;have hz:=b5.lt;clear b0 b5 hb;go_wp2_with fail;refine (ref_Value w2 false none 0 0 0 0 lt (d4_nil _) (by rw [d4_zero];decide) (by decide)).mono ?_;by_cases hin:l ∈ letters
 case neg =>
  have hdec:decide (lt ∈ letters.map UInt8.toNat)=false:=by
   refine decide_eq_false fun hm=>hin ?_;obtain ⟨x,hx,hxe⟩:=List.mem_map.1 hm;rw [← HLT.o] at hxe;rw [← UInt8.toNat_inj.1 hxe];exact hx
  have HN:Hid (condX ws=none):=by show _=_;rw [HWS.o];exact condX_bad hin
  rw [hdec];rintro e w3 ⟨⟨px,qx,bx,Ax,nx,cx,Bx,mx,dx,rfl,-,-⟩,hb3⟩;have x0:=(K0.o.below hb3 (by omega)).alloc (.cells #[.bool bx,.slice Ax nx cx,.slice Bx mx dx] 173);have hb4:=(HB.o.trans (hb3.mono HB.o.size)).alloc (Nat.le_trans HB.o.size hb3.size) (.cells #[.bool bx,.slice Ax nx cx,.slice Bx mx dx] 173);have hz3:=hb3.size;clear hb3 hdec hin k50 K0 K5 HB;dsimp only;go_upto_if 44 with fail;generalize w3.alloc (.cells #[.bool bx,.slice Ax nx cx,.slice Bx mx dx] 173)=w4 at *
  have X0:=qh x0;have X4:=qh hb4;clear x0 hb4;obtain ⟨q0,q1,q2,q3,q4,f0,f1,f2,f3,f4⟩:=X0.o.cf5;go_wp2_with fail;have hf:=(((((X0.o.put 0 (.int .u8 0)).put 1 (.int .i64 0)).put 2 (.bool false)).put 3 (.slice none 0 0)).put 4 (.slice none 0 0));have hbf:=(below_set (below_set (below_set (below_set (below_set X4.o w.heap.size 0 ql (.int .u8 0)) w.heap.size 1 ql (.int .i64 0)) w.heap.size 2 ql (.bool false)) w.heap.size 3 ql (.slice none 0 0)) w.heap.size 4 ql (.slice none 0 0));simp only [M0,M1] at hf;generalize (((((w4.setCell ⟨w.heap.size,0,none⟩ (.int .u8 0)).setCell ⟨w.heap.size,1,none⟩ (.int .i64 0)).setCell ⟨w.heap.size,2,none⟩ (.bool false)).setCell ⟨w.heap.size,3,none⟩ (.slice none 0 0)).setCell ⟨w.heap.size,4,none⟩ (.slice none 0 0))=wf at *
  obtain ⟨r0,r1,r2,r3,r4⟩:=hf.c5;refine bodyPost_ret (v:=.tuple #[.agg #[.int .u8 0,.int .i64 0,.bool false,.slice none 0 0,.slice none 0 0],.int .i64 0,.bool false]) (by simp [results,Tryz.results66,go_sem,r0,r1,r2,r3,r4];try rfl) rfl ?_;exact ⟨.inl ⟨HN.o,rfl⟩,hbf⟩
 have hdec:decide (lt ∈ letters.map UInt8.toNat)=true:=by
  refine decide_eq_true ?_;rw [← HLT.o];exact List.mem_map.2 ⟨l,hin,rfl⟩
 rw [hdec];rintro e w3 ⟨⟨px,qx,bx,Ax,nx,cx,Bx,mx,dx,rfl,-,-⟩,hb3⟩;have x0:=(K0.o.below hb3 (by omega)).alloc (.cells #[.bool bx,.slice Ax nx cx,.slice Bx mx dx] 173);have x5:=(K5.o.below hb3 (by omega)).alloc (.cells #[.bool bx,.slice Ax nx cx,.slice Bx mx dx] 173);have hb4:=(HB.o.trans (hb3.mono HB.o.size)).alloc (Nat.le_trans HB.o.size hb3.size) (.cells #[.bool bx,.slice Ax nx cx,.slice Bx mx dx] 173);have HIN:=qh hin;have hlt2:w.heap.size+1≤w3.heap.size:=by have:=hb3.size;omega
 clear hb3 hdec hin k50 K0 K5 HB;dsimp only;go_upto_if 44 with fail;generalize w3.alloc (.cells #[.bool bx,.slice Ax nx cx,.slice Bx mx dx] 173)=w4 at *
 have K0:=qh x0;have K5:=qh x5;have HB:=qh hb4;have k1:w4.cell? ⟨b,o+1,none⟩=some (.string ⟨q.toArray⟩):=HC.o w4 1 q hb4 E1.o;clear x0 x5 hb4 hz hlt2;obtain ⟨bq,hbq⟩:∃ bq,(q == [37])=bq:=⟨_,rfl⟩;go_upto_if 49 with fail;go_cut [8] (fun s8 wy=>∃ (at' m:Nat) (q' t':Bs),s8=.int .i64 (at':Int)∧Blk wy w.heap.size 118 zero5∧Blk wy g5 118 [.int .u8 (lt:Int),.int .i64 (m:Int),.bool false,.slice none 0 0,.slice none 0 0]∧Below w.heap.size w wy∧ws[at']?=some q'∧ws[at'+1]?=some t'∧condX ws=(tail? lt m [q',t']).map (fun c=>(c,at'+2))∧at'+1<ws.length∧at'≤3∧m<1000000000)
 case first =>
  by_cases hq:q=[37]
  case neg =>
   have hqI:(q == [37])=false:=by simpa using hq
   rw [hqI] at hbq;subst hbq;have HCX:Hid (condX ws=(tail? lt 0 [q,t]).map (fun c=>(c,1+2))):=by show _=_;rw [HWS.o,condX_plain HIN.o hq,HLT.o]
   clear hq;go_wp2_with fail;go_meet
   exact ⟨1,0,q,t,rfl,K0.o,K5.o,HB.o,E1.o,E2.o,HCX.o,by omega,by omega,by omega⟩
  subst hq;have hbq':bq=true:=by rw [← hbq];rfl
  subst hbq';clear hbq;have k2:w4.cell? ⟨b,o+2,none⟩=some (.string ⟨t.toArray⟩):=HC.o w4 2 t HB.o E2.o;have hcon:=ref_number w4 t (by omega);cases hnt:num? t with
  | none =>
   rw [hnt] at hcon;simp only [Option.getD_none,Option.isSome_none] at hcon;have HN:Hid (condX ws=none):=by show _=_;rw [HWS.o];exact condX_mod_none HIN.o (.inl hnt)
   have HCON:=qh hcon;clear hnt hcon k1;go_wp2_with fail;refine HCON.o.mono ?_;rintro e w5 ⟨rfl,hw5⟩;subst hw5;dsimp only;obtain ⟨q0,q1,q2,q3,q4,f0,f1,f2,f3,f4⟩:=K0.o.cf5;go_wp2_with fail;have hf:=(((((K0.o.put 0 (.int .u8 0)).put 1 (.int .i64 0)).put 2 (.bool false)).put 3 (.slice none 0 0)).put 4 (.slice none 0 0));have hbf:=(below_set (below_set (below_set (below_set (below_set HB.o w.heap.size 0 ql (.int .u8 0)) w.heap.size 1 ql (.int .i64 0)) w.heap.size 2 ql (.bool false)) w.heap.size 3 ql (.slice none 0 0)) w.heap.size 4 ql (.slice none 0 0));simp only [M0,M1] at hf;generalize (((((w5.setCell ⟨w.heap.size,0,none⟩ (.int .u8 0)).setCell ⟨w.heap.size,1,none⟩ (.int .i64 0)).setCell ⟨w.heap.size,2,none⟩ (.bool false)).setCell ⟨w.heap.size,3,none⟩ (.slice none 0 0)).setCell ⟨w.heap.size,4,none⟩ (.slice none 0 0))=wf at *
   obtain ⟨r0,r1,r2,r3,r4⟩:=hf.c5;refine bodyPost_ret (v:=.tuple #[.agg #[.int .u8 0,.int .i64 0,.bool false,.slice none 0 0,.slice none 0 0],.int .i64 0,.bool false]) (by simp [results,Tryz.results66,go_sem,r0,r1,r2,r3,r4];try rfl) rfl ?_;exact ⟨.inl ⟨HN.o,rfl⟩,hbf⟩
  | some m =>
   rw [hnt] at hcon;simp only [Option.getD_some,Option.isSome_some] at hcon;have hmb:=(num?_some hnt).2;have HCON:=qh hcon;have HNT:=qh hnt;clear hnt hcon k1;by_cases hm0:m=0
   ·have HN:Hid (condX ws=none):=by show _=_;rw [HWS.o];exact condX_mod_none HIN.o (.inr (.inl (by rw [HNT.o,hm0])))
    have hm0I:((m:Int) == 0)=true:=by rw [hm0];rfl
    clear hm0;go_wp2_with fail;refine HCON.o.mono ?_;rintro e w5 ⟨rfl,hw5⟩;subst hw5;dsimp only;obtain ⟨q0,q1,q2,q3,q4,f0,f1,f2,f3,f4⟩:=K0.o.cf5;go_wp2_with fail;have hf:=(((((K0.o.put 0 (.int .u8 0)).put 1 (.int .i64 0)).put 2 (.bool false)).put 3 (.slice none 0 0)).put 4 (.slice none 0 0));have hbf:=(below_set (below_set (below_set (below_set (below_set HB.o w.heap.size 0 ql (.int .u8 0)) w.heap.size 1 ql (.int .i64 0)) w.heap.size 2 ql (.bool false)) w.heap.size 3 ql (.slice none 0 0)) w.heap.size 4 ql (.slice none 0 0));simp only [M0,M1] at hf;generalize (((((w5.setCell ⟨w.heap.size,0,none⟩ (.int .u8 0)).setCell ⟨w.heap.size,1,none⟩ (.int .i64 0)).setCell ⟨w.heap.size,2,none⟩ (.bool false)).setCell ⟨w.heap.size,3,none⟩ (.slice none 0 0)).setCell ⟨w.heap.size,4,none⟩ (.slice none 0 0))=wf at *
    obtain ⟨r0,r1,r2,r3,r4⟩:=hf.c5;refine bodyPost_ret (v:=.tuple #[.agg #[.int .u8 0,.int .i64 0,.bool false,.slice none 0 0,.slice none 0 0],.int .i64 0,.bool false]) (by simp [results,Tryz.results66,go_sem,r0,r1,r2,r3,r4];try rfl) rfl ?_;exact ⟨.inl ⟨HN.o,rfl⟩,hbf⟩
   have hm0I:((m:Int) == 0)=false:=by rw [beq_eq_false_iff_ne];omega
   by_cases h5:ws.length<5
   ·have h5I:(ws.length:Int)<5:=by omega
    have HN:Hid (condX ws=none):=by show _=_;rw [HWS.o];exact condX_mod_none HIN.o (.inr (.inr (by have:=congrArg List.length HWS.o;simp at this;omega)))
    clear hm0 h5;go_wp2_with fail;refine HCON.o.mono ?_;rintro e w5 ⟨rfl,hw5⟩;subst hw5;dsimp only;obtain ⟨q0,q1,q2,q3,q4,f0,f1,f2,f3,f4⟩:=K0.o.cf5;go_wp2_with fail;have hf:=(((((K0.o.put 0 (.int .u8 0)).put 1 (.int .i64 0)).put 2 (.bool false)).put 3 (.slice none 0 0)).put 4 (.slice none 0 0));have hbf:=(below_set (below_set (below_set (below_set (below_set HB.o w.heap.size 0 ql (.int .u8 0)) w.heap.size 1 ql (.int .i64 0)) w.heap.size 2 ql (.bool false)) w.heap.size 3 ql (.slice none 0 0)) w.heap.size 4 ql (.slice none 0 0));simp only [M0,M1] at hf;generalize (((((w5.setCell ⟨w.heap.size,0,none⟩ (.int .u8 0)).setCell ⟨w.heap.size,1,none⟩ (.int .i64 0)).setCell ⟨w.heap.size,2,none⟩ (.bool false)).setCell ⟨w.heap.size,3,none⟩ (.slice none 0 0)).setCell ⟨w.heap.size,4,none⟩ (.slice none 0 0))=wf at *
    obtain ⟨r0,r1,r2,r3,r4⟩:=hf.c5;refine bodyPost_ret (v:=.tuple #[.agg #[.int .u8 0,.int .i64 0,.bool false,.slice none 0 0,.slice none 0 0],.int .i64 0,.bool false]) (by simp [results,Tryz.results66,go_sem,r0,r1,r2,r3,r4];try rfl) rfl ?_;exact ⟨.inl ⟨HN.o,rfl⟩,hbf⟩
   have h5I:¬ (ws.length:Int)<5:=by omega
   obtain ⟨q',t',r',hr⟩:∃ q' t' r',r=q' :: t' :: r':=by
    have hlen:=congrArg List.length HWS.o;simp at hlen;cases r with
    | nil=>simp at hlen;omega
    | cons q' r =>
     cases r with
     | nil=>simp at hlen;omega
     | cons t' r'=>exact ⟨q',t',r',rfl⟩
   have HCX:Hid (condX ws=(tail? lt m [q',t']).map (fun c=>(c,3+2))):=by show _=_;rw [HWS.o,hr,condX_mod HIN.o HNT.o hm0,HLT.o]
   have e3:ws[3]?=some q':=by rw [HWS.o,hr];rfl
   have e4:ws[4]?=some t':=by rw [HWS.o,hr];rfl
   have X3:=qh e3;have X4:=qh e4;obtain ⟨-,hq1,-,hf1⟩:=K5.o.cf2;clear hm0 h5 hr e3 e4;go_wp2_with fail;refine HCON.o.mono ?_;rintro e w5 ⟨rfl,hw5⟩;subst hw5;dsimp only;go_wp2_with fail;go_meet
   have p5:=K5.o.put 1 (.int .i64 (m:Int));simp only [M0,M1] at p5;exact ⟨3,m,q',t',rfl,K0.o.far ⟨g5,1,none⟩ (.int .i64 (m:Int)) (by simp;omega),p5,below_set HB.o g5 1 (by omega) _,X3.o,X4.o,HCX.o,by omega,by omega,hmb⟩
 case rest =>
  obtain ⟨at',m,q',t',rfl,x0,x5,hbc,eq',et',hcx,hat1,hat3,hmb⟩:=hcut;obtain ⟨a1,ha1⟩:∃ a1,at'+1=a1:=⟨_,rfl⟩;obtain ⟨a2,ha2⟩:∃ a2,at'+2=a2:=⟨_,rfl⟩;rw [ha1] at et' hat1;rw [ha2] at hcx;have hat1I:(at':Int)+1=(a1:Int):=by omega
  have hat2I:(at':Int)+2=(a2:Int):=by omega
  have ha14:a1≤4:=by omega
  have ha25:a2≤5:=by omega
  have ha10:(0:Int)≤(a1:Int):=by omega
  clear ha1 ha2;have J0:=qh x0;have J5:=qh x5;have HBC:=qh hbc;have EQ:=qh eq';have ET:=qh et';have HCX:=qh hcx;have hql':=HM.o q' (List.mem_of_getElem? eq');have htl':=HM.o t' (List.mem_of_getElem? et');have kq:wc.cell? ⟨b,o+at',none⟩=some (.string ⟨q'.toArray⟩):=HC.o wc at' q' hbc eq';have kt:wc.cell? ⟨b,o+a1,none⟩=some (.string ⟨t'.toArray⟩):=HC.o wc a1 t' hbc et';have hat0:(0:Int)≤(at':Int):=by omega
  have hatl:(at':Int)<(ws.length:Int):=by omega
  have hatl1:(a1:Int)<(ws.length:Int):=by omega
  have hz5:=x5.lt;clear x0 x5 hbc eq' et' hcx K0 K5 HB k1 HWS E0 E1 E2 HX;by_cases hqq:q'=[61]∨q'=[33,61]
  case neg =>
   have n1:q'≠[61]:=fun e=>hqq (.inl e);have n2:q'≠[33,61]:=fun e=>hqq (.inr e);have HN:Hid (condX ws=none):=by show _=_;rw [HCX.o,tail_none n1 n2];rfl
   have i1:(q' != [61])=true:=by simpa using n1
   have i2:(q' != [33,61])=true:=by simpa using n2
   have i3:(q' == [61])=false:=by simpa using n1
   have i4:(q' == [33,61])=false:=by simpa using n2
   clear n1 n2 hqq kt;go_step;go_upto_if 82 with fail;obtain ⟨q0,q1,q2,q3,q4,f0,f1,f2,f3,f4⟩:=J0.o.cf5;go_wp2_with fail;have hf:=(((((J0.o.put 0 (.int .u8 0)).put 1 (.int .i64 0)).put 2 (.bool false)).put 3 (.slice none 0 0)).put 4 (.slice none 0 0));have hbf:=(below_set (below_set (below_set (below_set (below_set HBC.o w.heap.size 0 ql (.int .u8 0)) w.heap.size 1 ql (.int .i64 0)) w.heap.size 2 ql (.bool false)) w.heap.size 3 ql (.slice none 0 0)) w.heap.size 4 ql (.slice none 0 0));simp only [M0,M1] at hf;generalize (((((wc.setCell ⟨w.heap.size,0,none⟩ (.int .u8 0)).setCell ⟨w.heap.size,1,none⟩ (.int .i64 0)).setCell ⟨w.heap.size,2,none⟩ (.bool false)).setCell ⟨w.heap.size,3,none⟩ (.slice none 0 0)).setCell ⟨w.heap.size,4,none⟩ (.slice none 0 0))=wf at *
   obtain ⟨r0,r1,r2,r3,r4⟩:=hf.c5;refine bodyPost_ret (v:=.tuple #[.agg #[.int .u8 0,.int .i64 0,.bool false,.slice none 0 0,.slice none 0 0],.int .i64 0,.bool false]) (by simp [results,Tryz.results66,go_sem,r0,r1,r2,r3,r4];try rfl) rfl ?_;exact ⟨.inl ⟨HN.o,rfl⟩,hbf⟩
  have HQQ:=qh hqq;obtain ⟨bnt,hbn⟩:∃ bnt,(q' == [33,61])=bnt:=⟨_,rfl⟩;have HTL:Hid (condX ws=((list? t').map (mkC lt m bnt)).map (fun c=>(c,a2))):=by show _=_;rw [HCX.o,tail_list hqq,hbn]
  clear HCX;go_step;go_upto_region 13 with fail;go_cut [82] (fun s wz=>s=.bool false∧wz=wc)
  case first =>
   rcases HQQ.o with e|e
   ·subst e;have i3:(([61]:Bs) == [61])=true:=rfl;have i1:(([61]:Bs) != [61])=false:=rfl;go_wp2_with fail;go_meet
    exact ⟨rfl,rfl⟩
   ·subst e;have i3:(([33,61]:Bs) == [61])=false:=rfl;have i1:(([33,61]:Bs) != [61])=true:=rfl;have i4:(([33,61]:Bs) == [33,61])=true:=rfl;have i2:(([33,61]:Bs) != [33,61])=false:=rfl;go_wp2_with fail;go_meet
    exact ⟨rfl,rfl⟩
  case rest =>
   rename_i wc0;obtain ⟨rfl,hwc⟩:=hcut;subst hwc;have hne:b≠g5:=five_far J5.o kq;obtain ⟨-,-,q52,-,-,f52⟩:=J5.o.cf3;clear hqq;go_step;go_upto_region 16 with fail;refine wp_letter (fun w6=>Blk w6 w.heap.size 118 zero5∧Blk w6 g5 118 [.int .u8 (lt:Int),.int .i64 (m:Int),.bool bnt,.slice none 0 0,.slice none 0 0]∧Below w.heap.size w w6) ⟨J0.o.far ⟨g5,2,none⟩ (.bool bnt) (by simp;omega),?_,below_set HBC.o g5 2 (by omega) _⟩ ?_
   ·have p5:=J5.o.put 2 (.bool bnt);simpa only [M0,M1] using p5
   rintro w6 ⟨x0,x5,hb6⟩;clear q52 f52 kq J0 J5 HBC hne;have kt2:=HC.o w6 a1 t' hb6 ET.o;have J0:=qh x0;have J5:=qh x5;have HB6:=qh hb6;have hz6:=x5.lt;clear x0 x5 hb6 kt;go_wp2_with fail;refine (ref_parts w6 t' 44 (by decide) htl').mono ?_;rintro e w7 ⟨⟨A7,n7,c7,rfl,hs7⟩,hb7⟩;obtain ⟨its,hits⟩:∃ its,splitG (UInt8.ofNat 44) t'=its:=⟨_,rfl⟩;rw [hits] at hs7;have hlist:list? t'=all? item? its:=by unfold list?;rw [← hits];rfl
   obtain rfl:n7=its.length:=hs7.len;have hil:its.length≤100001:=by rw [← hits];have:=splitG_length (UInt8.ofNat 44) t';omega
   have him:∀ x ∈ its,x.length≤100000:=by rw [← hits];exact fun x hx=>Nat.le_trans (splitG_mem_len _ _ x hx) htl'
   have HLI:=qh hlist;have HIM:=qh him;have HS7:=qh hs7;have x0:=J0.o.below hb7 J0.o.lt;have x5:=J5.o.below hb7 J5.o.lt;have HB7:=qt HB6 hb7;have J07:=qh x0;have J57:=qh x5;have hg57:g5<w7.heap.size:=x5.lt;have hilI:(its.length:Int)≤100001:=by omega
   clear hits hlist him hs7 x0 x5 hb7 kt2 J0 J5 HB6 hbn;dsimp only;go_wp2_with fail;go_loopw [12] (fun i wr=>∃ (k:Nat) (L:List (Nat × Nat)) (vF vT:Value),k≤its.length∧i=.int .i64 (k:Int)∧all? item? (its.take k)=some L∧L.length=k∧LK wr w7 g5 [.int .u8 (lt:Int),.int .i64 (m:Int),.bool bnt] vF vT vF vT (firsts L) (seconds L)) (fun i _=>its.length - (intOf i).toNat)
   case atStart=>exact ⟨0,[],_,_,Nat.zero_le _,rfl,rfl,rfl,J57.o,World.ownsRow_nil _ _ _ _,World.ownsRow_nil _ _ _ _,.inl rfl,⟨rfl,rfl,rfl,ql,fun _ _ _=>rfl⟩⟩
   case round =>
    obtain ⟨k,L,vF,vT,hk,rfl,hL,hLk,hI⟩:=hrel;obtain ⟨wo,rfl⟩:∃ wo:World,wo=wr:=⟨_,rfl⟩;have HL:=qh hL;have HI:=qh hI;have x0:=J07.o.kept hI.gr (by intro e;cases e;omega);have K0:=qh x0;have HBO:=qh (below_grown HB7.o hI.gr HB7.o.size (by intro j hj;cases hj;omega));have hgo:=hI.gr.size;obtain ⟨AF,nF,cF,hvF⟩:=hI.fr.form;obtain ⟨AT,nT,cT,hvT⟩:=hI.tl.form;clear hL hI x0;by_cases hlt:k<its.length
    case neg =>
     have hkI:¬ (k:Int)<(its.length:Int):=by omega
     have hfin:condX ws=some (mkC lt m bnt L,a2):=by
      have h1:=HL.o;rw [List.take_of_length_le (by omega)] at h1;rw [HTL.o,HLI.o,h1];rfl
     have HFIN:=qh hfin;have hb5:=HI.o.blk;have i0:=hb5.cell 0;have i1:=hb5.cell 1;have i2:=hb5.cell 2;have i3:=hb5.cell 3;have i4:=hb5.cell 4;have hFB:=HI.o.fr.intsB ql;have hTB:=HI.o.tl.intsB ql;have HFB:=qh hFB;have HTB:=qh hTB;subst hvF;subst hvT;have q0:=K0.o.cell 0;have q1:=K0.o.cell 1;have q2:=K0.o.cell 2;have q3:=K0.o.cell 3;have q4:=K0.o.cell 4;have f0:=K0.o.frozen 0;have f1:=K0.o.frozen 1;have f2:=K0.o.frozen 2;have f3:=K0.o.frozen 3;have f4:=K0.o.frozen 4;simp only [M2,M3,List.cons_append,List.nil_append] at q0 q1 q2 q3 q4 i0 i1 i2 i3 i4;clear hfin hb5 hFB hTB;go_wp2_with fail;have hf:=((((K0.o.put 0 (.int .u8 (lt:Int))).put 1 (.int .i64 (m:Int))).put 2 (.bool bnt)).put 3 (.slice AF nF cF)).put 4 (.slice AT nT cT);have hbf:=below_set (below_set (below_set (below_set (below_set HBO.o w.heap.size 0 ql (.int .u8 (lt:Int))) w.heap.size 1 ql (.int .i64 (m:Int))) w.heap.size 2 ql (.bool bnt)) w.heap.size 3 ql (.slice AF nF cF)) w.heap.size 4 ql (.slice AT nT cT);have hsF:=((((HFB.o.set (g:=w.heap.size) (by omega) 0 (.int .u8 (lt:Int))).set (g:=w.heap.size) (by omega) 1 (.int .i64 (m:Int))).set (g:=w.heap.size) (by omega) 2 (.bool bnt)).set (g:=w.heap.size) (by omega) 3 (.slice AF nF cF)).set (g:=w.heap.size) (by omega) 4 (.slice AT nT cT);have hsT:=((((HTB.o.set (g:=w.heap.size) (by omega) 0 (.int .u8 (lt:Int))).set (g:=w.heap.size) (by omega) 1 (.int .i64 (m:Int))).set (g:=w.heap.size) (by omega) 2 (.bool bnt)).set (g:=w.heap.size) (by omega) 3 (.slice AF nF cF)).set (g:=w.heap.size) (by omega) 4 (.slice AT nT cT);simp only [M0,M1] at hf;generalize (((((wo.setCell ⟨w.heap.size,0,none⟩ (.int .u8 (lt:Int))).setCell ⟨w.heap.size,1,none⟩ (.int .i64 (m:Int))).setCell ⟨w.heap.size,2,none⟩ (.bool bnt)).setCell ⟨w.heap.size,3,none⟩ (.slice AF nF cF)).setCell ⟨w.heap.size,4,none⟩ (.slice AT nT cT))=wf at *
     obtain ⟨r0,r1,r2,r3,r4⟩:=hf.c5;refine bodyPost_ret (v:=.tuple #[.agg #[.int .u8 (lt:Int),.int .i64 (m:Int),.bool bnt,.slice AF nF cF,.slice AT nT cT],.int .i64 (a2:Int),.bool true]) (by simp [results,Tryz.results66,go_sem,r0,r1,r2,r3,r4];try rfl) rfl ?_;exact ⟨.inr ⟨_,_,_,_,HFIN.o,rfl,hsF.mono (by omega),hsT.mono (by omega),⟨_,_,_,rfl⟩,⟨_,_,_,rfl⟩⟩,hbf⟩
    clear hvF hvT;have hkI:(k:Int)<(its.length:Int):=by omega
    have hk0:(0:Int)≤(k:Int):=by omega
    obtain ⟨pb,po,rfl,hpc⟩:=HS7.o.at (by omega);obtain ⟨tt,htt⟩:∃ x,its[k]?=some x:=⟨its[k],List.getElem?_eq_getElem hlt⟩;have hc7:=hpc k tt htt;have hpne:pb≠g5:=five_far J57.o hc7;have hco:wo.cell? ⟨pb,po+k,none⟩=some (.string ⟨tt.toArray⟩):=(HI.o.gr.cell_far ⟨pb,po+k,none⟩ (World.block_lt_of_cell? w7 _ hc7) (by intro e;exact hpne (Option.some.inj e))).trans hc7;have htl:=HIM.o tt (List.mem_of_getElem? htt);have htk:its.take (k+1)=its.take k ++ [tt]:=by rw [List.take_add_one,htt];rfl
    have HTT:=qh htt;have HTK:=qh htk;have HCO:Hid (∀ w',Below wo.heap.size wo w'→w'.cell? ⟨pb,po+k,none⟩=some (.string ⟨tt.toArray⟩)):=fun w' h=>(h.cell (World.block_lt_of_cell? wo _ hco)).trans hco;have htlI:(tt.length:Int)≤100000:=by omega
    clear hpc htt hc7 hpne htk;go_upto_region 20 with fail
    go_region
    clear hco
    go_upto_block 2 with fail
    refine wp_letter (fun wx=>LK wx w7 g5 [.int .u8 (lt:Int),.int .i64 (m:Int),.bool bnt] vF vT vF vT (firsts L) (seconds L)∧Below wo.heap.size wo wx) ⟨HI.o.below (Below.refl _ _).drew,(Below.refl _ _).drew⟩ ?_;rintro wx ⟨y1,y2⟩;have hcx:=HCO.o wx y2;have HIX:=qh y1;have HOX:=qh y2;have x0:=K0.o.below y2 K0.o.lt;have K0X:=qh x0;have HBX:=qt HBO y2;clear y1 y2 x0 K0 HBO HI;go_cut [13,14] (fun a b wy=>∃ a' b':Bs,a=.string ⟨a'.toArray⟩∧b=.string ⟨b'.toArray⟩∧item? tt=item2 a' b'∧a'.length≤100000∧b'.length≤100000∧Below wx.heap.size wx wy)
    case first =>
     go_wp2_with fail;go_loopw [13,14,15] (fun s13 s14 s wr=>∃ kk:Nat,kk≤tt.length∧s=.int .i64 (kk:Int)∧s13=.string ⟨tt.toArray⟩∧s14=.string ⟨tt.toArray⟩∧(∀ j,j<kk→Lib.occAt tt [46,46] j=false)∧Below wx.heap.size wx wr) (fun _ _ i _=>tt.length - (intOf i).toNat)
     case atStart=>exact ⟨0,Nat.zero_le _,rfl,rfl,rfl,fun j hj=>absurd hj (Nat.not_lt_zero _),Below.refl _ _⟩
     case round =>
      obtain ⟨kk,hkk,rfl,rfl,rfl,hno,hbr⟩:=hrel;have HNO:=qh hno;have HBR:=qh hbr;have hct:=HCO.o wr (HOX.o.trans (hbr.mono HOX.o.size));obtain ⟨k1,hk1⟩:∃ k1,kk+1=k1:=⟨_,rfl⟩;obtain ⟨k2,hk2⟩:∃ k2,kk+2=k2:=⟨_,rfl⟩;have hk1I:(kk:Int)+1=(k1:Int):=by omega
      have hk2I:(kk:Int)+2=(k2:Int):=by omega
      have hk1b:k1≤100001:=by omega
      have hk2b:k2≤100002:=by omega
      have hkk0:(0:Int)≤(kk:Int):=by omega
      have hk10:(0:Int)≤(k1:Int):=by omega
      have hk20:(0:Int)≤(k2:Int):=by omega
      have HK1:=qh hk1;have HK2:=qh hk2;clear hno hbr;by_cases h1:k1<tt.length
      case neg =>
       have h1I:¬ (k1:Int)<(tt.length:Int):=by omega
       have hit:Hid (item? tt=item2 tt tt):=item_whole (index_no (k:=kk) (by omega) HNO.o);clear hk1 hk2 hcx;go_wp2_with fail;go_meet
       exact ⟨tt,tt,rfl,rfl,hit.out,htl,htl,HBR.o⟩
      have h1I:(k1:Int)<(tt.length:Int):=by omega
      have h1J:(kk:Int)<(tt.length:Int):=by omega
      have h2J:(k2:Int)≤(tt.length:Int):=by omega
      have h1K:(kk:Int)≤(tt.length:Int):=by omega
      obtain ⟨hx1,ex1⟩:=ba_get tt kk tt[kk] (List.getElem?_eq_getElem (by omega));obtain ⟨hx2,ex2⟩:=ba_get tt k1 tt[k1] (List.getElem?_eq_getElem h1);obtain ⟨d,hd⟩:∃ d,(tt[kk]'(by omega)).toNat=d:=⟨_,rfl⟩;obtain ⟨e',he⟩:∃ e,(tt[k1]'h1).toNat=e:=⟨_,rfl⟩;have ed:((⟨tt.toArray⟩:ByteArray)[kk]).toNat=d:=by rw [ex1,hd]
      have ee:((⟨tt.toArray⟩:ByteArray)[k1]).toNat=e':=by rw [ex2,he]
      have hocc:Lib.occAt tt [46,46] kk=decide (d=46∧e'=46):=by
       rw [occ_two,hk1,List.getElem?_eq_getElem (by omega:kk<tt.length),List.getElem?_eq_getElem h1,decide_eq_decide];constructor
       ·rintro ⟨p1,p2⟩;rw [← hd,← he,Option.some.inj p1,Option.some.inj p2];exact ⟨rfl,rfl⟩
       ·rintro ⟨p1,p2⟩;refine ⟨congrArg some (UInt8.toNat_inj.1 ?_),congrArg some (UInt8.toNat_inj.1 ?_)⟩
        ·rw [hd,p1];rfl
        ·rw [he,p2];rfl
      have HOCC:=qh hocc
      have HNX:Hid (¬ (d=46∧e'=46)→∀ j,j<k1→Lib.occAt tt [46,46] j=false):=fun hne j hj=>by
       rcases Nat.lt_or_ge j kk with h|h
       ·exact HNO.o j h
       ·obtain rfl:j=kk:=by omega
        rw [HOCC.o];exact decide_eq_false hne
      clear ex1 ex2 hd he hocc hk1 hk2 hcx;by_cases hd:d=46
      ·have hdI:((d:Int) == 46)=true:=by rw [hd];rfl
       by_cases he:e'=46
       ·have heI:((e':Int) == 46)=true:=by rw [he];rfl
        have hit:Hid (item? tt=item2 (tt.take kk) (tt.drop k2)):=by
         show _=_;rw [← HK2.o];exact item_cut (index_two (by rw [HOCC.o];exact decide_eq_true ⟨hd,he⟩) HNO.o (by have:=HK1.o;omega))
        clear hd he;go_upto_region 25 with fail
        go_region
        go_wp2_with fail;go_meet
        refine ⟨tt.take kk,tt.drop k2,?_,?_,hit.out,?_,?_,HBR.o.drew⟩
        ·rw [← ba_take]
        ·rw [← ba_tail]
        ·rw [List.length_take];omega
        ·rw [List.length_drop];omega
       ·have heI:((e':Int) == 46)=false:=by rw [beq_eq_false_iff_ne];omega
        have hnx:=qh (HNX.o (fun h=>he h.2));clear hd he;go_wp2_with fail;go_roundw
        case rel=>exact ⟨k1,by omega,by go_num,rfl,rfl,hnx.out,HBR.o⟩
        case measure=>have:=HK1.o;simp [intOf];omega
      ·have hdI:((d:Int) == 46)=false:=by rw [beq_eq_false_iff_ne];omega
       have hnx:=qh (HNX.o (fun h=>hd h.1));clear hd;go_wp2_with fail;go_roundw
       case rel=>exact ⟨k1,by omega,by go_num,rfl,rfl,hnx.out,HBR.o⟩
       case measure=>have:=HK1.o;simp [intOf];omega
    case rest =>
     obtain ⟨a',b',rfl,rfl,hit,hal,hbl,hby⟩:=hcut;have x0:=K0X.o.below hby K0X.o.lt;have K0Y:=qh x0;have HIY:=qh (HIX.o.below hby);have HBY:=qt HBX hby;have hwc7:w7.heap.size≤wc.heap.size:=by have:=HIX.o.gr.size;have:=hby.size;omega
     have hit2:=hit;have HIT:=qh hit
     have hbad:item2 a' b'=none→condX ws=none:=fun h=>by
      rw [HTL.o,HLI.o,all?_bad HTT.o (by rw [HIT.o,h])];rfl
     have HBAD:=qh hbad;have hca:=ref_number wc a' (by omega);have hcb:=ref_number wc b' (by omega);clear x0 hby hit hit2 hbad HIX K0X HBX HOX HCO;go_step;cases hna:num? a' with
     | none =>
      rw [hna] at hca;simp only [Option.getD_none,Option.isSome_none] at hca;have HCA:=qh hca;have HCB:=qh hcb;have HN:Hid (condX ws=none):=HBAD.o (by unfold item2;rw [hna]);clear hca hcb hna;go_wp2_with fail;refine HCA.o.mono ?_;rintro e w8 ⟨rfl,hw8⟩;subst hw8;dsimp only;go_wp2_with fail;refine HCB.o.mono ?_;rintro e w9 ⟨rfl,hw9⟩;subst hw9;dsimp only;obtain ⟨q0,q1,q2,q3,q4,f0,f1,f2,f3,f4⟩:=K0Y.o.cf5;go_wp2_with fail;have hf:=(((((K0Y.o.put 0 (.int .u8 0)).put 1 (.int .i64 0)).put 2 (.bool false)).put 3 (.slice none 0 0)).put 4 (.slice none 0 0));have hbf:=(below_set (below_set (below_set (below_set (below_set HBY.o w.heap.size 0 ql (.int .u8 0)) w.heap.size 1 ql (.int .i64 0)) w.heap.size 2 ql (.bool false)) w.heap.size 3 ql (.slice none 0 0)) w.heap.size 4 ql (.slice none 0 0));simp only [M0,M1] at hf;generalize (((((w9.setCell ⟨w.heap.size,0,none⟩ (.int .u8 0)).setCell ⟨w.heap.size,1,none⟩ (.int .i64 0)).setCell ⟨w.heap.size,2,none⟩ (.bool false)).setCell ⟨w.heap.size,3,none⟩ (.slice none 0 0)).setCell ⟨w.heap.size,4,none⟩ (.slice none 0 0))=wf at *
      obtain ⟨r0,r1,r2,r3,r4⟩:=hf.c5;refine bodyPost_ret (v:=.tuple #[.agg #[.int .u8 0,.int .i64 0,.bool false,.slice none 0 0,.slice none 0 0],.int .i64 0,.bool false]) (by simp [results,Tryz.results66,go_sem,r0,r1,r2,r3,r4];try rfl) rfl ?_;exact ⟨.inl ⟨HN.o,rfl⟩,hbf⟩
     | some x =>
      rw [hna] at hca;simp only [Option.getD_some,Option.isSome_some] at hca;have hxb:=(num?_some hna).2;cases hnb:num? b' with
      | none =>
       rw [hnb] at hcb;simp only [Option.getD_none,Option.isSome_none] at hcb;have HCA:=qh hca;have HCB:=qh hcb;have HN:Hid (condX ws=none):=HBAD.o (by unfold item2;rw [hna,hnb]);clear hca hcb hna hnb;go_wp2_with fail;refine HCA.o.mono ?_;rintro e w8 ⟨rfl,hw8⟩;subst hw8;dsimp only;go_wp2_with fail;refine HCB.o.mono ?_;rintro e w9 ⟨rfl,hw9⟩;subst hw9;dsimp only;obtain ⟨q0,q1,q2,q3,q4,f0,f1,f2,f3,f4⟩:=K0Y.o.cf5;go_wp2_with fail;have hf:=(((((K0Y.o.put 0 (.int .u8 0)).put 1 (.int .i64 0)).put 2 (.bool false)).put 3 (.slice none 0 0)).put 4 (.slice none 0 0));have hbf:=(below_set (below_set (below_set (below_set (below_set HBY.o w.heap.size 0 ql (.int .u8 0)) w.heap.size 1 ql (.int .i64 0)) w.heap.size 2 ql (.bool false)) w.heap.size 3 ql (.slice none 0 0)) w.heap.size 4 ql (.slice none 0 0));simp only [M0,M1] at hf;generalize (((((w9.setCell ⟨w.heap.size,0,none⟩ (.int .u8 0)).setCell ⟨w.heap.size,1,none⟩ (.int .i64 0)).setCell ⟨w.heap.size,2,none⟩ (.bool false)).setCell ⟨w.heap.size,3,none⟩ (.slice none 0 0)).setCell ⟨w.heap.size,4,none⟩ (.slice none 0 0))=wf at *
       obtain ⟨r0,r1,r2,r3,r4⟩:=hf.c5;refine bodyPost_ret (v:=.tuple #[.agg #[.int .u8 0,.int .i64 0,.bool false,.slice none 0 0,.slice none 0 0],.int .i64 0,.bool false]) (by simp [results,Tryz.results66,go_sem,r0,r1,r2,r3,r4];try rfl) rfl ?_;exact ⟨.inl ⟨HN.o,rfl⟩,hbf⟩
      | some y =>
       rw [hnb] at hcb;simp only [Option.getD_some,Option.isSome_some] at hcb;have hyb:=(num?_some hnb).2;have HCA:=qh hca;have HCB:=qh hcb;by_cases hxy:x≤y
       case neg =>
        have HN:Hid (condX ws=none):=HBAD.o (by unfold item2;rw [hna,hnb];simp [hxy]);have hxyI:(y:Int)<(x:Int):=by omega
        clear hca hcb hna hnb hxy;go_wp2_with fail;refine HCA.o.mono ?_;rintro e w8 ⟨rfl,hw8⟩;subst hw8;dsimp only;go_wp2_with fail;refine HCB.o.mono ?_;rintro e w9 ⟨rfl,hw9⟩;subst hw9;dsimp only;obtain ⟨q0,q1,q2,q3,q4,f0,f1,f2,f3,f4⟩:=K0Y.o.cf5;go_wp2_with fail;have hf:=(((((K0Y.o.put 0 (.int .u8 0)).put 1 (.int .i64 0)).put 2 (.bool false)).put 3 (.slice none 0 0)).put 4 (.slice none 0 0));have hbf:=(below_set (below_set (below_set (below_set (below_set HBY.o w.heap.size 0 ql (.int .u8 0)) w.heap.size 1 ql (.int .i64 0)) w.heap.size 2 ql (.bool false)) w.heap.size 3 ql (.slice none 0 0)) w.heap.size 4 ql (.slice none 0 0));simp only [M0,M1] at hf;generalize (((((w9.setCell ⟨w.heap.size,0,none⟩ (.int .u8 0)).setCell ⟨w.heap.size,1,none⟩ (.int .i64 0)).setCell ⟨w.heap.size,2,none⟩ (.bool false)).setCell ⟨w.heap.size,3,none⟩ (.slice none 0 0)).setCell ⟨w.heap.size,4,none⟩ (.slice none 0 0))=wf at *
        obtain ⟨r0,r1,r2,r3,r4⟩:=hf.c5;refine bodyPost_ret (v:=.tuple #[.agg #[.int .u8 0,.int .i64 0,.bool false,.slice none 0 0,.slice none 0 0],.int .i64 0,.bool false]) (by simp [results,Tryz.results66,go_sem,r0,r1,r2,r3,r4];try rfl) rfl ?_;exact ⟨.inl ⟨HN.o,rfl⟩,hbf⟩
       have hxyI:¬ (y:Int)<(x:Int):=by omega
       have HALL:Hid (all? item? (its.take (k+1))=some (L ++ [(x,y)])):=by
        show _=_;rw [HTK.o];exact all?_snoc HL.o (by rw [HIT.o];unfold item2;rw [hna,hnb];simp [hxy])
       have hvFlt:∀ j,vF.ownBlock=some j→j<wc.heap.size:=fun j hj=>(World.ownsRow.lt HIY.o.fr j hj).2;have hvTlt:∀ j,vT.ownBlock=some j→j<wc.heap.size:=fun j hj=>(World.ownsRow.lt HIY.o.tl j hj).2;have hfl:(firsts L).length≤100001:=by simp only [firsts,List.length_map];omega
       have hsl:(seconds L).length≤100001:=by simp only [seconds,List.length_map];omega
       clear hca hcb hna hnb hxy;go_wp2_with fail;refine HCA.o.mono ?_;rintro e w8 ⟨rfl,hw8⟩;subst hw8;dsimp only;go_wp2_with fail;refine HCB.o.mono ?_;rintro e w9 ⟨rfl,hw9⟩;subst hw9;dsimp only;go_upto_region 30 with fail;refine wp_region_three (init:=[_,_,_,_,_,_,_,_,_,_,_]) (o1:=_) (o2:=_) (o3:=_) (fun w'=>w'.cell? ⟨g5,3,none⟩=some vF∧w'.cell? ⟨g5,4,none⟩=some vT) (by kernel_rfl) rfl (by kernel_rfl) (by kernel_rfl) (by kernel_rfl) (HIY.o.below (Below.refl _ _).drew).cells (fun hHeld=>?_);have dr:Below w9.heap.size w9 w9.drew:=(Below.refl _ _).drew;refine wpAnyH_letter (fun wz=>LK wz w7 g5 [.int .u8 (lt:Int),.int .i64 (m:Int),.bool bnt] vF vT vF vT (firsts L) (seconds L)∧Blk wz w.heap.size 118 zero5∧Below w.heap.size w wz∧w9.heap.size≤wz.heap.size) ⟨HIY.o.below dr,K0Y.o.below dr K0Y.o.lt,HBY.o.trans (dr.mono HBY.o.size),dr.size⟩ ?_;clear dr hHeld;rintro wz ⟨yZ,yK,yB,yS⟩;have HZ0:=qh yZ;have HK0:=qh yK;have HB0:=qh yB;have HS0:=qh yS;have hHeld:=HZ0.o.cells;clear yZ yK yB yS;refine takeA (i:=0) ?_
       try simp only [Act.put,MT,M0,M1]
       refine takeA (i:=1) ?_
       try simp only [Act.put,MT,M0,M1]
       refine takeA (i:=2) ?_
       try simp only [Act.put,MT,M0,M1]
       refine takeA (i:=5) ?_
       try simp only [Act.put,MT,M0,M1]
       refine takeA (i:=6) ?_
       try simp only [Act.put,MT,M0,M1]
       refine takeA (i:=7) ?_
       try simp only [Act.put,MT,M0,M1]
       refine wpAnyH_ready (rs:=[3,8]) (by kernel_rfl) (by simp) ?_;refine consL rfl (fun K2 hK=>?_) ?_
       ·skip;go_simp
        try clear hHeld
        refine hK.out _ _ ((HZ0.o.alloc (.cells #[.int .i64 (x:Int)] 3)).cells) (fun hHeld=>?_);clear hK K2 hHeld
        try simp only [Act.put,MT,M0,M1]
        obtain ⟨gx,hgx⟩:∃ g,wz.heap.size=g:=⟨_,rfl⟩;have hle_gx:w9.heap.size≤gx:=by have:=HS0.o;omega
        have hmk:Blk (wz.alloc (.cells #[.int .i64 (x:Int)] 3)) gx 3 [.int .i64 (x:Int)]:=by rw [← hgx];exact Blk.made _ 3 _ _ _ rfl rfl
        rw [hgx];refine wpAnyH_letter (fun wz=>Blk wz gx 3 [.int .i64 (x:Int)]∧LK wz w7 g5 [.int .u8 (lt:Int),.int .i64 (m:Int),.bool bnt] vF vT vF vT (firsts L) (seconds L)∧Blk wz w.heap.size 118 zero5∧Below w.heap.size w wz∧w9.heap.size≤wz.heap.size) ⟨hmk,HZ0.o.alloc _,HK0.o.alloc _,HB0.o.alloc HB0.o.size _,by have:=HS0.o;simp;omega⟩ ?_;clear hmk hgx;rintro wz ⟨yX,yZ,yK,yB,yS⟩;have HX1:=qh yX;have HZ1:=qh yZ;have HK1:=qh yK;have HB1:=qh yB;have HS1:=qh yS;have hHeld:=HZ1.o.cells;clear yX yZ yK yB yS;refine wpAnyH_ready (rs:=[4,8]) (by kernel_rfl) (by simp) ?_;refine consL rfl (fun K2 hK=>?_) ?_
        ·skip;refine step_append_lies _ rfl (.tmp 173) (.tmp 175) 45 rfl w7.heap.size 3 i3 (.int .i64 0) 1 8 Tryz.underlying45 hi3 hz0 hz1 hz2 rfl (by decide) vF (firsts L).length (ints (firsts L)) rfl HZ1.o.fr ⟨gx,0,none⟩ 1 1 [.int .i64 (x:Int)] rfl rfl (World.news_of_block HX1.o) (by simp [Value.oneCell']) (by omega) (by omega) (by omega) (Nat.le_trans hwc7 HS1.o) wz.heap.size rfl ?_;intro g1 cap1 w8 hown hgrow hat hlt8
         try clear hHeld
         have hpz:=HZ1.o.pushF hg57 hgrow hown (hat.imp id fun h=>Nat.le_of_eq h.symm);refine hK.out _ _ hpz.cells (fun hHeld=>?_);clear hK K2 hHeld
         try simp only [Act.put,MT,M0,M1]
         refine wpAnyH_letter (fun wz=>LK wz w7 g5 [.int .u8 (lt:Int),.int .i64 (m:Int),.bool bnt] vF vT (.slice (some ⟨g1,0,none⟩) ((firsts L).length+1) cap1) vT (firsts L ++ [(x:Int)]) (seconds L)∧Blk wz w.heap.size 118 zero5∧Below w.heap.size w wz∧w9.heap.size≤wz.heap.size) ⟨hpz,HK1.o.kept hgrow (fun e=>by have:=(World.ownsRow.lt HZ1.o.fr _ e.symm).1;omega),below_grown HB1.o hgrow HB1.o.size (fun j hj=>by have:=(World.ownsRow.lt HZ1.o.fr j hj).1;have:=HB7.o.size;omega),Nat.le_trans HS1.o hgrow.size⟩ ?_;clear hpz hown hgrow hat hlt8;rintro wz ⟨yZ,yK,yB,yS⟩;have HZ2:=qh yZ;have HK2:=qh yK;have HB2:=qh yB;have HS2:=qh yS;have hHeld:=HZ2.o.cells;clear yZ yK yB yS;refine takeA (i:=10) ?_
         try simp only [Act.put,MT,M0,M1]
         refine wpAnyH_ready (rs:=[8]) (by kernel_rfl) (by simp) ?_;refine consL rfl (fun K2 hK=>?_) AllReadyH.nil;go_simp
         try clear hHeld
         refine hK.out _ _ ((HZ2.o.alloc (.cells #[.int .i64 (y:Int)] 3)).cells) (fun hHeld=>?_);clear hK K2 hHeld
         try simp only [Act.put,MT,M0,M1]
         obtain ⟨gy,hgy⟩:∃ g,wz.heap.size=g:=⟨_,rfl⟩;have hle_gy:w9.heap.size≤gy:=by have:=HS2.o;omega
         have hmk:Blk (wz.alloc (.cells #[.int .i64 (y:Int)] 3)) gy 3 [.int .i64 (y:Int)]:=by rw [← hgy];exact Blk.made _ 3 _ _ _ rfl rfl
         rw [hgy];refine wpAnyH_letter (fun wz=>Blk wz gy 3 [.int .i64 (y:Int)]∧LK wz w7 g5 [.int .u8 (lt:Int),.int .i64 (m:Int),.bool bnt] vF vT (.slice (some ⟨g1,0,none⟩) ((firsts L).length+1) cap1) vT (firsts L ++ [(x:Int)]) (seconds L)∧Blk wz w.heap.size 118 zero5∧Below w.heap.size w wz∧w9.heap.size≤wz.heap.size) ⟨hmk,HZ2.o.alloc _,HK2.o.alloc _,HB2.o.alloc HB2.o.size _,by have:=HS2.o;simp;omega⟩ ?_;clear hmk hgy;rintro wz ⟨yY,yZ,yK,yB,yS⟩;have HY3:=qh yY;have HZ3:=qh yZ;have HK3:=qh yK;have HB3:=qh yB;have HS3:=qh yS;have hHeld:=HZ3.o.cells;clear yY yZ yK yB yS;refine wpAnyH_ready (rs:=[9]) (by kernel_rfl) (by simp) ?_;refine consL rfl (fun K2 hK=>?_) AllReadyH.nil;refine step_append_lies _ rfl (.tmp 178) (.tmp 180) 45 rfl w7.heap.size 3 i3 (.int .i64 0) 1 8 Tryz.underlying45 hi3 hz0 hz1 hz2 rfl (by decide) vT (seconds L).length (ints (seconds L)) rfl HZ3.o.tl ⟨gy,0,none⟩ 1 1 [.int .i64 (y:Int)] rfl rfl (World.news_of_block HY3.o) (by simp [Value.oneCell']) (by omega) (by omega) (by omega) (Nat.le_trans hwc7 HS3.o) wz.heap.size rfl ?_;intro g2 cap2 w8 hown hgrow hat hlt8
         try clear hHeld
         have hpz:=HZ3.o.pushT hg57 hgrow hown (hat.imp id fun h=>Nat.le_of_eq h.symm);refine hK.out _ _ hpz.cells (fun hHeld=>?_);clear hK K2 hHeld
         try simp only [Act.put,MT,M0,M1]
         refine wpAnyH_letter (fun wz=>LK wz w7 g5 [.int .u8 (lt:Int),.int .i64 (m:Int),.bool bnt] vF vT (.slice (some ⟨g1,0,none⟩) ((firsts L).length+1) cap1) (.slice (some ⟨g2,0,none⟩) ((seconds L).length+1) cap2) (firsts L ++ [(x:Int)]) (seconds L ++ [(y:Int)])∧Blk wz w.heap.size 118 zero5∧Below w.heap.size w wz∧w9.heap.size≤wz.heap.size) ⟨hpz,HK3.o.kept hgrow (fun e=>by have:=(World.ownsRow.lt HZ3.o.tl _ e.symm).1;omega),below_grown HB3.o hgrow HB3.o.size (fun j hj=>by have:=(World.ownsRow.lt HZ3.o.tl j hj).1;have:=HB7.o.size;omega),Nat.le_trans HS3.o hgrow.size⟩ ?_;clear hpz hown hgrow hat hlt8;rintro wz ⟨yZ,yK,yB,yS⟩;have HZ4:=qh yZ;have HK4:=qh yK;have HB4:=qh yB;have HS4:=qh yS;have hHeld:=HZ4.o.cells;clear yZ yK yB yS;refine wpAnyH_done (by kernel_rfl) ?_ _;have c3:=HZ4.o.blk.cell 3;have c4:=HZ4.o.blk.cell 4;have u3:=HZ4.o.blk.frozen 3;have u4:=HZ4.o.blk.frozen 4;simp only [M2,M3,List.cons_append,List.nil_append] at c3 c4;have hfin:=HZ4.o.sets hg57;have HFIN:=qh hfin;clear hHeld hfin;refine tailQ_step (a':=?a1) (w':=?w1) (fun K Q' hK=>?h1) ?k1
         case h1=>(go_simp;exact hK)
         try simp only [Act.put,MT,M0,M1]
         refine tailQ_step (a':=?a2) (w':=?w2) (fun K Q' hK=>?h2) ?k2
         case h2=>(go_simp;exact hK)
         try simp only [Act.put,MT,M0,M1]
         refine tailQ_step (a':=?a3) (w':=?w3) (fun K Q' hK=>?h3) ?k3
         case h3=>(go_simp;exact hK)
         try simp only [Act.put,MT,M0,M1]
         go_wp2_with fail;go_roundw
         case rel =>
          refine ⟨k+1,L ++ [(x,y)],(.slice (some ⟨g1,0,none⟩) ((firsts L).length+1) cap1),(.slice (some ⟨g2,0,none⟩) ((seconds L).length+1) cap2),by omega,by go_num,HALL.o,by rw [List.length_append,hLk];rfl,?_⟩;rw [firsts_snoc,seconds_snoc]
          with_reducible exact HFIN.o
         case measure=>simp [intOf];omega
        refine consL rfl (fun K2 hK=>?_) AllReadyH.nil;go_simp
        try clear hHeld
        refine hK.out _ _ ((HZ1.o.alloc (.cells #[.int .i64 (y:Int)] 3)).cells) (fun hHeld=>?_);clear hK K2 hHeld
        try simp only [Act.put,MT,M0,M1]
        obtain ⟨gy,hgy⟩:∃ g,wz.heap.size=g:=⟨_,rfl⟩;have hle_gy:w9.heap.size≤gy:=by have:=HS1.o;omega
        have hmk:Blk (wz.alloc (.cells #[.int .i64 (y:Int)] 3)) gy 3 [.int .i64 (y:Int)]:=by rw [← hgy];exact Blk.made _ 3 _ _ _ rfl rfl
        rw [hgy];refine wpAnyH_letter (fun wz=>Blk wz gx 3 [.int .i64 (x:Int)]∧Blk wz gy 3 [.int .i64 (y:Int)]∧LK wz w7 g5 [.int .u8 (lt:Int),.int .i64 (m:Int),.bool bnt] vF vT vF vT (firsts L) (seconds L)∧Blk wz w.heap.size 118 zero5∧Below w.heap.size w wz∧w9.heap.size≤wz.heap.size) ⟨HX1.o.alloc _,hmk,HZ1.o.alloc _,HK1.o.alloc _,HB1.o.alloc HB1.o.size _,by have:=HS1.o;simp;omega⟩ ?_;clear hmk hgy;rintro wz ⟨yX,yY,yZ,yK,yB,yS⟩;have HX2:=qh yX;have HY2:=qh yY;have HZ2:=qh yZ;have HK2:=qh yK;have HB2:=qh yB;have HS2:=qh yS;have hHeld:=HZ2.o.cells;clear yX yY yZ yK yB yS;refine wpAnyH_ready (rs:=[4]) (by kernel_rfl) (by simp) ?_;refine consL rfl (fun K2 hK=>?_) AllReadyH.nil;refine step_append_lies _ rfl (.tmp 173) (.tmp 175) 45 rfl w7.heap.size 3 i3 (.int .i64 0) 1 8 Tryz.underlying45 hi3 hz0 hz1 hz2 rfl (by decide) vF (firsts L).length (ints (firsts L)) rfl HZ2.o.fr ⟨gx,0,none⟩ 1 1 [.int .i64 (x:Int)] rfl rfl (World.news_of_block HX2.o) (by simp [Value.oneCell']) (by omega) (by omega) (by omega) (Nat.le_trans hwc7 HS2.o) wz.heap.size rfl ?_;intro g1 cap1 w8 hown hgrow hat hlt8
        try clear hHeld
        have hpz:=HZ2.o.pushF hg57 hgrow hown (hat.imp id fun h=>Nat.le_of_eq h.symm);refine hK.out _ _ hpz.cells (fun hHeld=>?_);clear hK K2 hHeld
        try simp only [Act.put,MT,M0,M1]
        refine wpAnyH_letter (fun wz=>Blk wz gy 3 [.int .i64 (y:Int)]∧LK wz w7 g5 [.int .u8 (lt:Int),.int .i64 (m:Int),.bool bnt] vF vT (.slice (some ⟨g1,0,none⟩) ((firsts L).length+1) cap1) vT (firsts L ++ [(x:Int)]) (seconds L)∧Blk wz w.heap.size 118 zero5∧Below w.heap.size w wz∧w9.heap.size≤wz.heap.size) ⟨HY2.o.kept hgrow (fun e=>by have:=hvFlt _ e.symm;omega),hpz,HK2.o.kept hgrow (fun e=>by have:=(World.ownsRow.lt HZ2.o.fr _ e.symm).1;omega),below_grown HB2.o hgrow HB2.o.size (fun j hj=>by have:=(World.ownsRow.lt HZ2.o.fr j hj).1;have:=HB7.o.size;omega),Nat.le_trans HS2.o hgrow.size⟩ ?_;clear hpz hown hgrow hat hlt8;rintro wz ⟨yY,yZ,yK,yB,yS⟩;have HY3:=qh yY;have HZ3:=qh yZ;have HK3:=qh yK;have HB3:=qh yB;have HS3:=qh yS;have hHeld:=HZ3.o.cells;clear yY yZ yK yB yS;refine takeA (i:=10) ?_
        try simp only [Act.put,MT,M0,M1]
        refine wpAnyH_ready (rs:=[9]) (by kernel_rfl) (by simp) ?_;refine consL rfl (fun K2 hK=>?_) AllReadyH.nil;refine step_append_lies _ rfl (.tmp 178) (.tmp 180) 45 rfl w7.heap.size 3 i3 (.int .i64 0) 1 8 Tryz.underlying45 hi3 hz0 hz1 hz2 rfl (by decide) vT (seconds L).length (ints (seconds L)) rfl HZ3.o.tl ⟨gy,0,none⟩ 1 1 [.int .i64 (y:Int)] rfl rfl (World.news_of_block HY3.o) (by simp [Value.oneCell']) (by omega) (by omega) (by omega) (Nat.le_trans hwc7 HS3.o) wz.heap.size rfl ?_;intro g2 cap2 w8 hown hgrow hat hlt8
        try clear hHeld
        have hpz:=HZ3.o.pushT hg57 hgrow hown (hat.imp id fun h=>Nat.le_of_eq h.symm);refine hK.out _ _ hpz.cells (fun hHeld=>?_);clear hK K2 hHeld
        try simp only [Act.put,MT,M0,M1]
        refine wpAnyH_letter (fun wz=>LK wz w7 g5 [.int .u8 (lt:Int),.int .i64 (m:Int),.bool bnt] vF vT (.slice (some ⟨g1,0,none⟩) ((firsts L).length+1) cap1) (.slice (some ⟨g2,0,none⟩) ((seconds L).length+1) cap2) (firsts L ++ [(x:Int)]) (seconds L ++ [(y:Int)])∧Blk wz w.heap.size 118 zero5∧Below w.heap.size w wz∧w9.heap.size≤wz.heap.size) ⟨hpz,HK3.o.kept hgrow (fun e=>by have:=(World.ownsRow.lt HZ3.o.tl _ e.symm).1;omega),below_grown HB3.o hgrow HB3.o.size (fun j hj=>by have:=(World.ownsRow.lt HZ3.o.tl j hj).1;have:=HB7.o.size;omega),Nat.le_trans HS3.o hgrow.size⟩ ?_;clear hpz hown hgrow hat hlt8;rintro wz ⟨yZ,yK,yB,yS⟩;have HZ4:=qh yZ;have HK4:=qh yK;have HB4:=qh yB;have HS4:=qh yS;have hHeld:=HZ4.o.cells;clear yZ yK yB yS;refine wpAnyH_done (by kernel_rfl) ?_ _;have c3:=HZ4.o.blk.cell 3;have c4:=HZ4.o.blk.cell 4;have u3:=HZ4.o.blk.frozen 3;have u4:=HZ4.o.blk.frozen 4;simp only [M2,M3,List.cons_append,List.nil_append] at c3 c4;have hfin:=HZ4.o.sets hg57;have HFIN:=qh hfin;clear hHeld hfin;refine tailQ_step (a':=?a4) (w':=?w4) (fun K Q' hK=>?h4) ?k4
        case h4=>(go_simp;exact hK)
        try simp only [Act.put,MT,M0,M1]
        refine tailQ_step (a':=?a5) (w':=?w5) (fun K Q' hK=>?h5) ?k5
        case h5=>(go_simp;exact hK)
        try simp only [Act.put,MT,M0,M1]
        refine tailQ_step (a':=?a6) (w':=?w6) (fun K Q' hK=>?h6) ?k6
        case h6=>(go_simp;exact hK)
        try simp only [Act.put,MT,M0,M1]
        go_wp2_with fail;go_roundw
        case rel =>
         refine ⟨k+1,L ++ [(x,y)],(.slice (some ⟨g1,0,none⟩) ((firsts L).length+1) cap1),(.slice (some ⟨g2,0,none⟩) ((seconds L).length+1) cap2),by omega,by go_num,HALL.o,by rw [List.length_append,hLk];rfl,?_⟩;rw [firsts_snoc,seconds_snoc]
         with_reducible exact HFIN.o
        case measure=>simp [intOf];omega
       refine consL rfl (fun K2 hK=>?_) AllReadyH.nil;go_simp
       try clear hHeld
       refine hK.out _ _ ((HZ0.o.alloc (.cells #[.int .i64 (y:Int)] 3)).cells) (fun hHeld=>?_);clear hK K2 hHeld
       try simp only [Act.put,MT,M0,M1]
       obtain ⟨gy,hgy⟩:∃ g,wz.heap.size=g:=⟨_,rfl⟩;have hle_gy:w9.heap.size≤gy:=by have:=HS0.o;omega
       have hmk:Blk (wz.alloc (.cells #[.int .i64 (y:Int)] 3)) gy 3 [.int .i64 (y:Int)]:=by rw [← hgy];exact Blk.made _ 3 _ _ _ rfl rfl
       rw [hgy];refine wpAnyH_letter (fun wz=>Blk wz gy 3 [.int .i64 (y:Int)]∧LK wz w7 g5 [.int .u8 (lt:Int),.int .i64 (m:Int),.bool bnt] vF vT vF vT (firsts L) (seconds L)∧Blk wz w.heap.size 118 zero5∧Below w.heap.size w wz∧w9.heap.size≤wz.heap.size) ⟨hmk,HZ0.o.alloc _,HK0.o.alloc _,HB0.o.alloc HB0.o.size _,by have:=HS0.o;simp;omega⟩ ?_;clear hmk hgy;rintro wz ⟨yY,yZ,yK,yB,yS⟩;have HY1:=qh yY;have HZ1:=qh yZ;have HK1:=qh yK;have HB1:=qh yB;have HS1:=qh yS;have hHeld:=HZ1.o.cells;clear yY yZ yK yB yS;refine wpAnyH_ready (rs:=[3]) (by kernel_rfl) (by simp) ?_;refine consL rfl (fun K2 hK=>?_) AllReadyH.nil;go_simp
       try clear hHeld
       refine hK.out _ _ ((HZ1.o.alloc (.cells #[.int .i64 (x:Int)] 3)).cells) (fun hHeld=>?_);clear hK K2 hHeld
       try simp only [Act.put,MT,M0,M1]
       obtain ⟨gx,hgx⟩:∃ g,wz.heap.size=g:=⟨_,rfl⟩;have hle_gx:w9.heap.size≤gx:=by have:=HS1.o;omega
       have hmk:Blk (wz.alloc (.cells #[.int .i64 (x:Int)] 3)) gx 3 [.int .i64 (x:Int)]:=by rw [← hgx];exact Blk.made _ 3 _ _ _ rfl rfl
       rw [hgx];refine wpAnyH_letter (fun wz=>Blk wz gx 3 [.int .i64 (x:Int)]∧Blk wz gy 3 [.int .i64 (y:Int)]∧LK wz w7 g5 [.int .u8 (lt:Int),.int .i64 (m:Int),.bool bnt] vF vT vF vT (firsts L) (seconds L)∧Blk wz w.heap.size 118 zero5∧Below w.heap.size w wz∧w9.heap.size≤wz.heap.size) ⟨hmk,HY1.o.alloc _,HZ1.o.alloc _,HK1.o.alloc _,HB1.o.alloc HB1.o.size _,by have:=HS1.o;simp;omega⟩ ?_;clear hmk hgx;rintro wz ⟨yX,yY,yZ,yK,yB,yS⟩;have HX2:=qh yX;have HY2:=qh yY;have HZ2:=qh yZ;have HK2:=qh yK;have HB2:=qh yB;have HS2:=qh yS;have hHeld:=HZ2.o.cells;clear yX yY yZ yK yB yS;refine wpAnyH_ready (rs:=[4]) (by kernel_rfl) (by simp) ?_;refine consL rfl (fun K2 hK=>?_) AllReadyH.nil;refine step_append_lies _ rfl (.tmp 173) (.tmp 175) 45 rfl w7.heap.size 3 i3 (.int .i64 0) 1 8 Tryz.underlying45 hi3 hz0 hz1 hz2 rfl (by decide) vF (firsts L).length (ints (firsts L)) rfl HZ2.o.fr ⟨gx,0,none⟩ 1 1 [.int .i64 (x:Int)] rfl rfl (World.news_of_block HX2.o) (by simp [Value.oneCell']) (by omega) (by omega) (by omega) (Nat.le_trans hwc7 HS2.o) wz.heap.size rfl ?_;intro g1 cap1 w8 hown hgrow hat hlt8
       try clear hHeld
       have hpz:=HZ2.o.pushF hg57 hgrow hown (hat.imp id fun h=>Nat.le_of_eq h.symm);refine hK.out _ _ hpz.cells (fun hHeld=>?_);clear hK K2 hHeld
       try simp only [Act.put,MT,M0,M1]
       refine wpAnyH_letter (fun wz=>Blk wz gy 3 [.int .i64 (y:Int)]∧LK wz w7 g5 [.int .u8 (lt:Int),.int .i64 (m:Int),.bool bnt] vF vT (.slice (some ⟨g1,0,none⟩) ((firsts L).length+1) cap1) vT (firsts L ++ [(x:Int)]) (seconds L)∧Blk wz w.heap.size 118 zero5∧Below w.heap.size w wz∧w9.heap.size≤wz.heap.size) ⟨HY2.o.kept hgrow (fun e=>by have:=hvFlt _ e.symm;omega),hpz,HK2.o.kept hgrow (fun e=>by have:=(World.ownsRow.lt HZ2.o.fr _ e.symm).1;omega),below_grown HB2.o hgrow HB2.o.size (fun j hj=>by have:=(World.ownsRow.lt HZ2.o.fr j hj).1;have:=HB7.o.size;omega),Nat.le_trans HS2.o hgrow.size⟩ ?_;clear hpz hown hgrow hat hlt8;rintro wz ⟨yY,yZ,yK,yB,yS⟩;have HY3:=qh yY;have HZ3:=qh yZ;have HK3:=qh yK;have HB3:=qh yB;have HS3:=qh yS;have hHeld:=HZ3.o.cells;clear yY yZ yK yB yS;refine takeA (i:=10) ?_
       try simp only [Act.put,MT,M0,M1]
       refine wpAnyH_ready (rs:=[9]) (by kernel_rfl) (by simp) ?_;refine consL rfl (fun K2 hK=>?_) AllReadyH.nil;refine step_append_lies _ rfl (.tmp 178) (.tmp 180) 45 rfl w7.heap.size 3 i3 (.int .i64 0) 1 8 Tryz.underlying45 hi3 hz0 hz1 hz2 rfl (by decide) vT (seconds L).length (ints (seconds L)) rfl HZ3.o.tl ⟨gy,0,none⟩ 1 1 [.int .i64 (y:Int)] rfl rfl (World.news_of_block HY3.o) (by simp [Value.oneCell']) (by omega) (by omega) (by omega) (Nat.le_trans hwc7 HS3.o) wz.heap.size rfl ?_;intro g2 cap2 w8 hown hgrow hat hlt8
       try clear hHeld
       have hpz:=HZ3.o.pushT hg57 hgrow hown (hat.imp id fun h=>Nat.le_of_eq h.symm);refine hK.out _ _ hpz.cells (fun hHeld=>?_);clear hK K2 hHeld
       try simp only [Act.put,MT,M0,M1]
       refine wpAnyH_letter (fun wz=>LK wz w7 g5 [.int .u8 (lt:Int),.int .i64 (m:Int),.bool bnt] vF vT (.slice (some ⟨g1,0,none⟩) ((firsts L).length+1) cap1) (.slice (some ⟨g2,0,none⟩) ((seconds L).length+1) cap2) (firsts L ++ [(x:Int)]) (seconds L ++ [(y:Int)])∧Blk wz w.heap.size 118 zero5∧Below w.heap.size w wz∧w9.heap.size≤wz.heap.size) ⟨hpz,HK3.o.kept hgrow (fun e=>by have:=(World.ownsRow.lt HZ3.o.tl _ e.symm).1;omega),below_grown HB3.o hgrow HB3.o.size (fun j hj=>by have:=(World.ownsRow.lt HZ3.o.tl j hj).1;have:=HB7.o.size;omega),Nat.le_trans HS3.o hgrow.size⟩ ?_;clear hpz hown hgrow hat hlt8;rintro wz ⟨yZ,yK,yB,yS⟩;have HZ4:=qh yZ;have HK4:=qh yK;have HB4:=qh yB;have HS4:=qh yS;have hHeld:=HZ4.o.cells;clear yZ yK yB yS;refine wpAnyH_done (by kernel_rfl) ?_ _;have c3:=HZ4.o.blk.cell 3;have c4:=HZ4.o.blk.cell 4;have u3:=HZ4.o.blk.frozen 3;have u4:=HZ4.o.blk.frozen 4;simp only [M2,M3,List.cons_append,List.nil_append] at c3 c4;have hfin:=HZ4.o.sets hg57;have HFIN:=qh hfin;clear hHeld hfin;refine tailQ_step (a':=?a7) (w':=?w7) (fun K Q' hK=>?h7) ?k7
       case h7=>(go_simp;exact hK)
       try simp only [Act.put,MT,M0,M1]
       refine tailQ_step (a':=?a8) (w':=?w8) (fun K Q' hK=>?h8) ?k8
       case h8=>(go_simp;exact hK)
       try simp only [Act.put,MT,M0,M1]
       refine tailQ_step (a':=?a9) (w':=?w9) (fun K Q' hK=>?h9) ?k9
       case h9=>(go_simp;exact hK)
       try simp only [Act.put,MT,M0,M1]
       go_wp2_with fail;go_roundw
       case rel =>
        refine ⟨k+1,L ++ [(x,y)],(.slice (some ⟨g1,0,none⟩) ((firsts L).length+1) cap1),(.slice (some ⟨g2,0,none⟩) ((seconds L).length+1) cap2),by omega,by go_num,HALL.o,by rw [List.length_append,hLk];rfl,?_⟩;rw [firsts_snoc,seconds_snoc]
        with_reducible exact HFIN.o
       case measure=>simp [intOf];omega
end Go.Proofs.YtdgleeglndcjhaaGreatDoor
