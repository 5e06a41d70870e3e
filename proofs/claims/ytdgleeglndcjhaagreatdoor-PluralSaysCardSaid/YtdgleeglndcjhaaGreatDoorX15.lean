import Derived.Test.YtdgleeglndcjhaaGreatDoorX14
import Derived.Test.YtdgleeglndcjhaaGreatDoorX02
import Derived.Lib.ItoaNum
import Derived.Deep.RegionWith
set_option linter.unusedVariables false
set_option maxHeartbeats 2000000
set_option maxRecDepth 100000
namespace Go.Proofs.YtdgleeglndcjhaaGreatDoor
open Go.RowKit
theorem clone_u32 (w:World) (v:Value) (l:List Nat) (h:RL w v l) (hl:l.length≤100000000) :
  Calls Tryz.prog 132 #[v] w fun e w'=>∃ v',e=.returned v'∧RL w' v' l∧Below w.heap.size w w':=by
 obtain ⟨i0,hi,hz0,hz1,hz2⟩:=info_parts Tryz_info43;have HX:=qh h;obtain ⟨A,c,rfl,hc,hcell⟩:=h.form;rcases A with _|ad
 ·have hl0:l=[]:=by
   rcases l with _|⟨x,l⟩
   ·rfl
   ·obtain ⟨b,o,h,_⟩:=hcell 0 (by simp);cases h
  subst hl0;refine (Tryz.slices_Clone_nil_f132 _ _ _).mono ?_;rintro e w' ⟨rfl,rfl⟩;exact ⟨_,rfl,⟨SlC.nil _ _ _ _,Wd.nil⟩,Below.refl _ _⟩
 ·have hnews:∀ j u,(U32 l)[j]?=some u→w.cell? (ad.add j)=some u:=by
   intro j u hu;obtain ⟨A',c',h1,h2,h3,h4⟩:=HX.o.1;obtain ⟨b,o,h5,h6⟩:=h4 (by have:=List.getElem?_eq_some_iff.1 hu;obtain ⟨h,_⟩:=this;omega);obtain ⟨rfl,_,_⟩:=Value.slice.inj h1;cases h5
   rw [Go.WideShapes.add_plain];exact h6 j u hu
  have Hnews:=qh hnews;generalize hn:l.length=n at *
  have Hn:=qh hn;clear h hcell hnews hn;have heq:=fun w=>Lib.run_eql_slice_nil (P:=Tryz.prog) w 22 43 (some ad) n c 0 0 Tryz.underlying22;go_enter Tryz.func132,Tryz.ntmps132;go_wp2_with (at_builtin;go_loud (refine wpList_append_own _ rfl (.tmp 5) (.tmp 6) 22 rfl (w.heap.size) 43 i0 (.int .u32 0) 1 4 Tryz.underlying22 hi hz0 hz1 hz2 rfl (by decide) _ 0 [] rfl (World.ownsRow_lit w #[] 0 ql (by decide) (by simp)) ad n c (U32 l) rfl (by rw [U32_length,Hn.o];omega) (fun j u hu=>(World.cell?_alloc_some _ _ _ (by rw [Hnews.o j u hu];rfl)).trans (Hnews.o j u hu)) (by intro u hu;simp [U32] at hu;obtain ⟨x,_,rfl⟩:=hu;rfl) (by unfold maxLen;omega) (by omega) (by simp) ?_;intro v' w' hown hg hnil))
  go_wp2
  go_ret
  refine ⟨v',rfl,?_,?_⟩
  ·have:=SlC.own hown;rw [Nat.zero_add,List.nil_append] at this;exact ⟨by rw [Hn.o];exact this,HX.o.2⟩
  ·exact ((Below.refl _ _).alloc ql _).grown hg (by simp) (by intro k hk;cases hk;exact ql)
theorem nat_Div (w:World) (x y:Value) (a b:List Nat) (hx:RL w x a) (hy:RL w y b) (ha:a.length≤10000000) (hb:b.length≤10000000) (hb0:0<val b) :
  Calls Tryz.prog 86 #[.agg #[x],.agg #[y]] w fun e w'=>∃ v u,e=.returned (.tuple #[.agg #[v],.agg #[u],.bool true])∧RN w' v (val a / val b)∧RN w' u (val a % val b)∧Below w.heap.size w w':=by
 have ha':(wordsOf (val a)).length≤10000000:=Nat.le_trans ((length_wordsOf _ _).2 (val_lt a hx.2)) ha;have hb':(wordsOf (val b)).length≤10000000:=Nat.le_trans ((length_wordsOf _ _).2 (val_lt b hy.2)) hb;obtain ⟨p,hp⟩:∃ p,p=val a:=⟨_,rfl⟩;obtain ⟨q,hq⟩:∃ p,p=val b:=⟨_,rfl⟩;rw [← hp,← hq];rw [← hp] at ha';rw [← hq] at hb' hb0;have Hp:=qh hp;have Hq:=qh hq;clear hp hq;obtain ⟨i0,hi,hz0,hz1,hz2⟩:=info_parts Tryz_info43;have ha9:a.length≤1000000000:=by omega
 have hb9:b.length≤1000000000:=by omega
 go_enter Tryz.func86,Tryz.ntmps86;go_wp2_with fail;refine wp_letter (fun w1=>w1.cell? ⟨w.heap.size,0,none⟩=some x∧w1.cell? ⟨w.heap.size+1,0,none⟩=some y∧w.heap.size+4≤w1.heap.size∧Blk w1 (w.heap.size+1+1) 24 [.slice none 0 0]∧Blk w1 (w.heap.size+1+1+1) 24 [.slice none 0 0]∧Below w.heap.size w w1) ⟨by simp [go_sem],by simp [go_sem],by simp,(Blk.made _ 24 _ _ _ (by simp) rfl).alloc _,Blk.made _ 24 _ _ _ (by simp) rfl,((((Below.refl _ _).alloc (by simp) _).alloc (by simp) _).alloc (by simp;omega) _).alloc (by simp;omega) _⟩ ?_;rintro w1 ⟨cx,cy,hN,B2,B3,hB⟩;have HK:Hid (∀ w',Below (w.heap.size+4) w1 w'→w'.cell? ⟨w.heap.size,0,none⟩=some x∧w'.cell? ⟨w.heap.size+1,0,none⟩=some y∧Below (w.heap.size+4) w1 w'):=fun w' h=>⟨(h.cell (by simp)).trans cx,(h.cell (by simp)).trans cy,h⟩;have HX:Hid (∀ w',Below (w.heap.size+4) w1 w'→RL w' x a∧RL w' y b∧Blk w' (w.heap.size+1+1) 24 [.slice none 0 0]∧Blk w' (w.heap.size+1+1+1) 24 [.slice none 0 0]∧Below w.heap.size w w'):=fun w' h=>⟨hx.below (hB.trans (h.mono (by omega))) ql,hy.below (hB.trans (h.mono (by omega))) ql,B2.below h (by omega),B3.below h (by omega),hB.trans (h.mono (by omega))⟩;clear hx hy B2 B3
 go_region_held3 (fun w'=>w'.cell? ⟨w.heap.size,0,none⟩=some x∧w'.cell? ⟨w.heap.size+1,0,none⟩=some y∧Below (w.heap.size+4) w1 w')
  (first|exact HK.o _ (Below.refl _ _).drew|(go_split_ands;first|exact HK.o _ (below_on ‹Below (w.heap.size+4) w1 _› hN hb3)|exact HK.o _ (below_on ‹Below (w.heap.size+4) w1 _› hN hb2)))
  (first|((with_reducible refine (nat_trim _ x a ?_ ha9).mono ?_);(exact (HX.o _ (by go_split_ands;assumption)).1);rintro e w2 ⟨v2,rfl,hr2,hb2⟩)|((with_reducible refine (nat_trim _ y b ?_ hb9).mono ?_);(exact (HX.o _ (by go_split_ands;assumption)).2.1);rintro e w3 ⟨v3,rfl,hr3,hb3⟩))
 have HK3:Hid (w3.cell? ⟨w.heap.size,0,none⟩=some x∧w3.cell? ⟨w.heap.size+1,0,none⟩=some y):=by go_split_ands;exact ⟨‹_›,‹_›⟩
 have HX3:=qh (HX.o w3 (by go_split_ands;assumption))
 have hz3:w.heap.size+4≤w3.heap.size:=by
  have:Below (w.heap.size+4) w1 w3:=by go_split_ands;assumption
  exact Nat.le_trans hN this.size
 have hr2:=hr2.below hb3 ql;rw [← Hp.o] at hr2;rw [← Hq.o] at hr3;have HP:=qh hr2;have HQ:=qh hr3;obtain ⟨A2,c2,rfl,hc2,hcell2⟩:=hr2.form;obtain ⟨A3,c3,rfl,hc3,hcell3⟩:=hr3.form;rename_i hHeld;clear hHeld hb2 hb3 HK HX hN hB cx cy ha hb;have hq1:¬ ((wordsOf q).length=0):=by rw [List.length_eq_zero_iff,wordsOf_eq_nil];omega
 have hq1':(((wordsOf q).length:Int) == 0)=false:=by rw [beq_eq_false_iff_ne];omega
 have Hq1:=qh hq1;clear hq1;go_wp2_with fail;refine (nat_Cmp w3 x y a b HX3.o.1 HX3.o.2.1 ha9 hb9).mono ?_;rintro e w4 ⟨rfl,hb4⟩;rw [← Hp.o,← Hq.o];have hz4:w.heap.size+4≤w4.heap.size:=Nat.le_trans hz3 hb4.size;have HP4:=qh (HP.o.below hb4 ql);have HQ4:=qh (HQ.o.below hb4 ql);have B2:=qh (HX3.o.2.2.1.below hb4 HX3.o.2.2.1.lt);have B3:=qh (HX3.o.2.2.2.1.below hb4 HX3.o.2.2.2.1.lt);have BB:=qh (HX3.o.2.2.2.2.trans (hb4.mono HX3.o.2.2.2.2.size))
 have hcell2:∀ k,k<(wordsOf p).length→∃ b o,A2=some ⟨b,o,none⟩∧w4.cell? ⟨b,o+k,none⟩=some (.int .u32 ((wordsOf p).getD k 0:Nat)):=fun k hk=>by
  obtain ⟨b,o,h1,h2,h3,_⟩:=hcell2 k hk;exact ⟨b,o,h1,(hb4.cell (p:=⟨b,o+k,none⟩) h3).trans h2⟩
 have hcell3:∀ k,k<(wordsOf q).length→∃ b o,A3=some ⟨b,o,none⟩∧w4.cell? ⟨b,o+k,none⟩=some (.int .u32 ((wordsOf q).getD k 0:Nat)):=fun k hk=>by
  obtain ⟨b,o,h1,h2,h3,_⟩:=hcell3 k hk;exact ⟨b,o,h1,(hb4.cell (p:=⟨b,o+k,none⟩) h3).trans h2⟩
 clear HP HQ HX3 HK3 hz3 hb4;by_cases hpq:p<q
 ·-- the dividend is less
  have hcmp:decide (cmpN p q<0)=true:=by rw [cmpN_lt hpq];rfl
  generalize cmpN p q=cc at hcmp ⊢;have Hpq:=qh hpq;clear hcell2 hcell3 hpq;go_wp2_with fail;refine (clone_u32 _ _ _ HP4.o (by omega)).mono ?_;rintro e w5 ⟨v5,rfl,hr5,hb5⟩;obtain ⟨A5,c5,rfl,-⟩:=hr5.form;have HR5:=qh hr5;have hB2:=B2.o.below hb5 B2.o.lt;have hB3:=B3.o.below hb5 B3.o.lt;obtain ⟨c2,f2⟩:=hB2.cf1;obtain ⟨c3,f3⟩:=hB3.cf1;have HB2:=qh hB2;have HB3:=qh hB3;have Hb5:=qh hb5;clear hr5 hB2 hB3 hb5
  go_wp2
  refine bodyPost_ret (v:=.tuple #[.agg #[.slice none 0 0],.agg #[.slice A5 _ c5],.bool true]) (by simp [results,Tryz.results86,go_sem,c2,c3];try rfl) rfl ?_;refine ⟨_,_,rfl,?_,?_,?_⟩
  ·rw [Nat.div_eq_of_lt Hpq.o];unfold RN;rw [wordsOf_zero];exact ⟨SlC.nil _ _ _ _,Wd.nil⟩
  ·rw [Nat.mod_eq_of_lt Hpq.o];exact RL.far (RL.far HR5.o HB2.o (by simp) _ _) (HB3.o.far _ _ (by simp)) (by simp) _ _
  ·exact ((BB.o.trans (Hb5.o.mono BB.o.size)).setCell (by simp;omega) _).setCell (by simp;omega) _
 ·have hcmp:decide (cmpN p q<0)=false:=by
   rcases Nat.lt_or_ge q p with h|h
   ·rw [cmpN_gt h];rfl
   ·rw [cmpN_eq (by omega)];rfl
  generalize cmpN p q=cc at hcmp ⊢;have Hpq:=qh hpq;clear hpq;have hn0:0<(wordsOf q).length:=by have:=Hq1.o;omega
  have hn0':(0:Int)<((wordsOf q).length:Int):=by omega
  by_cases h1:(wordsOf q).length=1
  ·-- a divisor of one word
   have hl1:(((wordsOf q).length:Int) == 1)=true:=by rw [h1];rfl
   obtain ⟨b,o,rfl,hc0⟩:=hcell3 0 (by omega)
   have hq8:(wordsOf q).getD 0 0=q:=by
    have:=(length_wordsOf q 1).1 (by omega);rw [getD_wordsOf,Nat.pow_zero,Nat.div_one];exact Nat.mod_eq_of_lt (by omega)
   have hqB:q<4294967296:=by have:=(length_wordsOf q 1).1 (by omega);omega
   rw [hq8,Nat.add_zero] at hc0;have Hl1:=qh h1;have Hq8:=qh hq8;clear hcell2 hcell3 h1 hq8;go_wp2_with fail;refine (nat_small _ _ _ q HP4.o (by omega) hb0 hqB).mono ?_;rintro e w5 ⟨v5,out,rfl,hr5,hv5,hl5,hb5⟩;rw [val_wordsOf] at hv5 ⊢;have hB2:=B2.o.below hb5 B2.o.lt;have hB3:=B3.o.below hb5 B3.o.lt;have HR5:=qh hr5;have Hv5:=qh hv5;have Hl5:=qh hl5;have HB2:=qh hB2;have HB3:=qh hB3;have Hb5:=qh hb5;have hr8:p % q<4294967296:=Nat.lt_trans (Nat.mod_lt _ hb0) hqB;clear hr5 hv5 hl5 hB2 hB3 hb5;go_wp2_with fail;refine (nat_trim _ _ out HR5.o (by rw [Hl5.o];omega)).mono ?_;rintro e w6 ⟨v6,rfl,hr6,hb6⟩;rw [Hv5.o] at hr6;have HR6:=qh hr6;have HB26:=qh (HB2.o.below hb6 HB2.o.lt);have HB36:=qh (HB3.o.below hb6 HB3.o.lt);have Hb6:=qh hb6;obtain ⟨A6,c6,rfl,-⟩:=hr6.form;clear hr6 hb6;go_wp2_with fail;refine (nat_Of _ (p % q) (by omega)).mono ?_;rintro e w7 ⟨v7,rfl,hr7,hb7⟩;obtain ⟨A7,c7,rfl,-⟩:=hr7.form;have HR7:=qh hr7;have HR67:=qh (HR6.o.below hb7 ql);have hB2:=HB26.o.below hb7 HB26.o.lt;have hB3:=HB36.o.below hb7 HB36.o.lt;obtain ⟨c2,f2⟩:=hB2.cf1;obtain ⟨c3,f3⟩:=hB3.cf1;have HB27:=qh hB2;have HB37:=qh hB3;have Hb7:=qh hb7;clear hr7 hB2 hB3 hb7
   go_wp2
   refine bodyPost_ret (v:=.tuple #[.agg #[.slice A6 (wordsOf (p / q)).length c6],.agg #[.slice A7 (wordsOf (p % q)).length c7],.bool true]) (by simp [results,Tryz.results86,go_sem,c2,c3];try rfl) rfl ?_;refine ⟨_,_,rfl,?_,?_,?_⟩
   ·exact RL.far (RL.far HR67.o HB27.o (by simp) _ _) (HB37.o.far _ _ (by simp)) (by simp) _ _
   ·exact RL.far (RL.far HR7.o HB27.o (by simp) _ _) (HB37.o.far _ _ (by simp)) (by simp) _ _
   ·have h1:=BB.o.trans (Hb5.o.mono BB.o.size);have h2:=h1.trans (Hb6.o.mono h1.size);have h3:=h2.trans (Hb7.o.mono h2.size);exact (h3.setCell (by simp;omega) _).setCell (by simp;omega) _
  ·-- Knuth's algorithm D
   have hl1:(((wordsOf q).length:Int) == 1)=false:=by rw [beq_eq_false_iff_ne];omega
   obtain ⟨b,o,rfl,hc0⟩:=hcell3 ((wordsOf q).length - 1) (by omega);have hTne:=wordsOf_last (n:=q) (by omega);have hTB:=(wd_wordsOf q).getD ((wordsOf q).length - 1);have hTq:=getD_wordsOf q ((wordsOf q).length - 1);have hqn:=(length_wordsOf q (wordsOf q).length).1 ql;have hqn1:=(length_lt q ((wordsOf q).length - 1)).1 (by omega);have hpl:=(length_wordsOf p (wordsOf p).length).1 ql
   have hlpq:(wordsOf q).length≤(wordsOf p).length:=by
    rcases Nat.lt_or_ge (wordsOf p).length (wordsOf q).length with h|h
    ·have:=words_lt h;have:=Hpq.o;omega
    ·exact h
   obtain ⟨T,hT⟩:∃ T,T=(wordsOf q).getD ((wordsOf q).length - 1) 0:=⟨_,rfl⟩;rw [← hT] at hTne hTB hTq hc0;obtain ⟨bl,hbl⟩:∃ bl,bl=Lib.bitLen T:=⟨_,rfl⟩;obtain ⟨hb1,hb2,hb3⟩:=Lib.bitLenAux_bounds 64 T (by omega) hTne;rw [show Lib.bitLenAux 64 T=bl from hbl.symm] at hb1 hb2 hb3
   have hbl32:bl≤32:=by
    rcases Nat.lt_or_ge 32 bl with h|h
    ·have:2 ^ 32≤2 ^ (bl - 1):=Nat.pow_le_pow_right (by omega) (by omega);omega
    ·exact h
   obtain ⟨s,hs⟩:∃ s,s=32 - bl:=⟨_,rfl⟩;have hs32:s<32:=by omega
   have hlz:(32:Int) - (Lib.bitLen T:Int)=(s:Int):=by rw [← hbl];omega
   obtain ⟨hts1,hts2⟩:=top_shift hb2 hb3 hb1 hbl32;rw [← hs] at hts1 hts2
   have HST:Hid (2147483648≤q / 4294967296 ^ ((wordsOf q).length - 1) * 2 ^ s∧(q / 4294967296 ^ ((wordsOf q).length - 1)+1) * 2 ^ s≤4294967296):=by
    have e:q / 4294967296 ^ ((wordsOf q).length - 1)=T:=by
     rw [hTq,Nat.mod_eq_of_lt];rw [Nat.div_lt_iff_lt_mul (Nat.pow_pos (by omega)),← Nat.pow_succ',show ((wordsOf q).length - 1).succ=(wordsOf q).length by omega];exact hqn
    rw [e];refine ⟨hts1,?_⟩;have e2:2 ^ bl * 2 ^ s=4294967296:=by rw [← Nat.pow_add,show bl+s=32 by omega]
    rw [← e2];exact Nat.mul_le_mul_right _ hb3
   generalize hn:(wordsOf q).length=n at *
   generalize hm:(wordsOf p).length=m at *
   have Hn:=qh hn;have Hm:=qh hm;have Hqn:=qh hqn;have Hqn1:=qh hqn1;have Hpl:=qh hpl;have hn2:2≤n:=by omega
   have hidx:(0:Int)≤(n:Int) - 1:=by omega
   have hidx2:(n:Int) - 1<(n:Int):=by omega
   clear hcell2 hcell3 h1 hT hTne hTq hbl hb1 hb2 hb3 hbl32 hs hts1 hts2 hn hm hqn hqn1 hpl;go_wp2_with ((go_at_call 134;refine (Tryz.bits_LeadingZeros32 _ _ (by omega) (by omega)).mono ?_;rintro e w' ⟨rfl,rfl⟩;rw [Int.toNat_natCast,hlz]))
   obtain ⟨w4,rfl⟩:∃ w4:World,w4=w':=⟨_,rfl⟩;have hnn:(n:Int)≤(n:Int)+1:=by omega
   clear hlz hc0 hidx hidx2 hcmp
   go_region_held3 (fun w''=>Below w4.heap.size w4 w'')
    (first|exact (Below.refl _ _).drew|(first|exact below_on ‹Below w4.heap.size w4 _› ql hb6|exact below_on ‹Below w4.heap.size w4 _› ql hb5))
    (first|((with_reducible refine (nat_shift _ (.slice A2 m c2) (wordsOf p) s ?_ (by rw [Hm.o];omega) hs32).mono ?_);(exact HP4.o.below ‹Below w4.heap.size w4 _› ql);rintro e w5 ⟨g5,U0,rfl,hg5,hU5,hUw,hUv,hUl,hb5⟩;(rw [Hm.o]))|((with_reducible refine (nat_shift _ (.slice (some ⟨b,o,none⟩) n c3) (wordsOf q) s ?_ (by rw [Hn.o];omega) hs32).mono ?_);(exact HQ4.o.below ‹Below w4.heap.size w4 _› ql);rintro e w6 ⟨g6,VV,rfl,hg6,hV6,hVw,hVv,hVl,hb6⟩;(rw [Hn.o])))
   have hHe:Below w4.heap.size w4 w6:=by assumption
   rename_i hHeld2;rw [val_wordsOf] at hUv hVv;rw [Hm.o] at hUl;rw [Hn.o] at hVl;obtain ⟨hV1,hV2⟩:=shifted_top hVw hVv (by omega) Hqn.o HST.o.1 HST.o.2;have hU6:=hU5.below hb6 hU5.lt;have hgne:g6≠g5:=by have:=hU5.lt;omega
   have hg5:w4.heap.size≤g5:=hg5;have HB2:=qh (B2.o.below hHe B2.o.lt);have HB3:=qh (B3.o.below hHe B3.o.lt);have HBB:=qt BB hHe;have hz6:w4.heap.size≤w6.heap.size:=hHe.size;have hg56:=hU6.lt;have hg66:=hV6.lt;have HU6:=qh hU6;have HV6:=qh hV6;have HUv:=qh hUv;have HUl:=qh hUl;have HVl:=qh hVl;have HV1:=qh hV1;have HV2:=qh hV2;obtain ⟨K,rfl⟩:∃ K,m=n+K:=⟨m - n,by omega⟩;clear hHeld2 hHe hU5 hU6 hV6 hUv hUl hVl hV1 hV2 hb5 hb6 hg6 HP4 HQ4 B2 B3 BB hcell2 hcell3 hr2 hr3;go_wp2_with (at_make;go_loud (refine wpList_make_blk _ rfl (.tmp 77) (.tmp 77) 22 rfl 43 i0 (.int .u32 0) Tryz.underlying22 hi hz0 hz1 rfl .i64 .i64 _ _ (K+1) rfl rfl (by simp;try omega) (by simp;try omega) (by rw [hz2];omega) (by unfold maxLen;omega) ?_))
   go_wp2_with fail;generalize hgO:w6.heap.size=gO at *
   have HgO:=qh hgO;clear hgO;have hVV:Hid (0<val (VV.take n)):=by rw [HV1.o];exact Nat.mul_pos hb0 (Nat.pow_pos (by omega))
   go_loopw [15] (fun s15 wr=>∃ (j:Nat) (Ul suf:List Nat),s15=.int .i64 ((j:Int) - 1)∧j≤K+1∧Ul.length=n+K+1∧Wd Ul∧suf.length=K+1 - j∧Wd suf ∧
     Blk wr g5 43 (U32 Ul)∧Blk wr g6 43 (U32 VV)∧Blk wr gO 43 (U32 (List.replicate j 0 ++ suf))∧Ul.take j=U0.take j∧val (Ul.drop j)<val (VV.take n) ∧
     val suf * val (VV.take n)+val (Ul.drop j)=val (U0.drop j)∧Blk wr (w.heap.size+1+1) 24 [.slice none 0 0]∧Blk wr (w.heap.size+1+1+1) 24 [.slice none 0 0]∧Below w.heap.size w wr) (fun i _=>(intOf i+1).toNat)
   case atStart =>
    refine ⟨K+1,U0,[],by go_num,by omega,HUl.o,hUw,by simp,Wd.nil,HU6.o.alloc _,HV6.o.alloc _,Blk.made _ 43 _ _ _ HgO.o.symm (by simp [U32]),rfl,?_,by simp [val],HB2.o.alloc _,HB3.o.alloc _,HBB.o.alloc (by rw [HgO.o];omega) _⟩;rw [HV1.o];exact div_first HUv.o hUw (by rw [HUl.o];omega) (by rw [Nat.add_comm K];exact Hpl.o) Hqn1.o (by omega) (Nat.pow_pos (by omega))
   case round =>
    obtain ⟨j,Ul,suf,rfl,hj,hUll,hUlw,hsl,hsw,bU,bV,bO,htk,hR,hsum,b2,b3,hbw⟩:=hrel;by_cases hj0:0<j
    ·obtain ⟨i,rfl⟩:∃ i,j=i+1:=⟨j - 1,by omega⟩
     have hgetU:Ul.getD i 0=U0.getD i 0:=by
      have h1:=congrArg (fun l=>l.getD i 0) htk;simp only [List.getD_eq_getElem?_getD,List.getElem?_take,Nat.lt_succ_self,if_true] at h1;simpa [List.getD_eq_getElem?_getD] using h1
     obtain ⟨hW,hS,hq8⟩:=div_round (U0:=U0) (U:=Ul) (suf:=suf) (j:=i) (V:=val (VV.take n)) hVV.out (by rw [HUl.o];omega) hgetU (by rw [hUll,HUl.o]) rfl hR (hUlw.getD i) hsum
     have hVn:val (VV.take n)<4294967296 ^ n:=by
      have:=val_lt _ (hVw.take n)
      rwa [List.length_take,Nat.min_eq_left (by rw [HVl.o];omega)] at this
     have hWn:val (Ul.drop i)<4294967296 ^ (n+1):=by
      rw [Nat.pow_succ];exact Nat.lt_trans hW (Nat.mul_lt_mul_of_pos_right hVn (by omega))
     obtain ⟨hwin,_⟩:=val_split (Ul.drop i) (n+1) hWn (hUlw.drop i)
     have hpost:val ((Ul.drop i).drop (n+1))=0:=by
      have h1:=val_take_drop (Ul.drop i) (n+1) (by rw [List.length_drop,hUll];omega);rw [hwin] at h1;rcases Nat.eq_zero_or_pos (val ((Ul.drop i).drop (n+1))) with h|h
      ·exact h
      ·have:4294967296 ^ (n+1) * 1≤4294967296 ^ (n+1) * val ((Ul.drop i).drop (n+1)):=Nat.mul_le_mul_left _ h;omega
     have hsplit:Ul.take i ++ ((Ul.drop i).take (n+1) ++ (Ul.drop i).drop (n+1))=Ul:=by rw [List.take_append_drop,List.take_append_drop]
     have HST2:Hid (Calls Tryz.prog 136 #[.slice (some ⟨g5,i,none⟩) (n+1) (n+K+1 - i),.slice (some ⟨g6,0,none⟩) n (n+1)] wr fun e w'=>∃ u',e=.returned (.int .u32 (val (Ul.drop i) / val (VV.take n):Nat)) ∧
       Blk w' g5 43 (U32 (Ul.take i ++ (u' ++ (Ul.drop i).drop (n+1))))∧u'.length=n+1∧Wd u'∧val u'=val (Ul.drop i) % val (VV.take n)∧wr.grownBy w' (some g5)):=by
      have h:=nat_step wr g5 i (n+K+1 - i) g6 (n+1) n (Ul.take i) ((Ul.drop i).take (n+1)) ((Ul.drop i).drop (n+1)) (VV.take n) (VV.drop n) (by rw [hsplit];exact bU) (by rw [List.take_append_drop];exact bV) hgne
       (by rw [List.length_take,hUll];omega) (by rw [List.length_take,HVl.o];omega) (by rw [List.length_take,List.length_drop,hUll];omega) (by omega) (by omega) hn2 (by omega) (by omega) ((hUlw.drop i).take _) (hVw.take n)
       (by rw [List.getD_eq_getElem?_getD,List.getElem?_take,if_pos (by omega),← List.getD_eq_getElem?_getD];exact HV2.o) (by rw [hwin];exact hW)
      rw [hwin] at h;exact h
     have hO:=(bO.cell i).trans (U32_get _ i (by simp;omega));have Htk:=qh htk;have Hpost:=qh hpost;have HS:=qh hS;have Hsl:=qh hsl;have Hull:=qh hUll;have BV:=qh bV;have BO:=qh bO;have b2':=qh b2;have b3':=qh b3;have Hbw:=qh hbw;have hcapne:¬ (n+K+1=i):=by omega
     have hi1:(i:Int)≤(i:Int)+(n:Int)+1:=by omega
     have hi2:(i:Int)+(n:Int)+1≤(n:Int)+(K:Int)+1:=by omega
     have hi3:(i:Int)<(K:Int)+1:=by omega
     rw [show (((i+1:Nat):Int) - 1)=(i:Int) by omega];clear hW hS hWn hwin hpost hsplit hgetU htk hsl hUll hR hsum bU bV bO b2 b3 hbw;go_wp2_with fail;rw [show i+n+1 - i=n+1 by omega];refine HST2.o.mono ?_;rintro e w7 ⟨u',rfl,hB7,hul7,huw7,huv7,hg7⟩;have hgO7:=hg7.size;have hne2:w.heap.size+1+1≠g5:=by omega
     have hne3:w.heap.size+1+1+1≠g5:=by omega
     have hneO:gO≠g5:=by have:=HgO.o;omega
     have BO7:=BO.o.grown hg7 hneO;have BV7:=qh (BV.o.grown hg7 hgne);have B27:=qh (b2'.out.grown hg7 hne2);have B37:=qh (b3'.out.grown hg7 hne3);have BW7:=qh (Hbw.o.grown hg7 (Hbw.o.size) (by intro k hk;cases hk;omega));have hO:=(BO7.cell i).trans (U32_get _ i (by simp;omega));have fO:=BO7.frozen i;have HBO7:=qh BO7;have HB7:=qh hB7;have Hul7:=qh hul7;have Huv7:=qh huv7;obtain ⟨d,hd⟩:∃ d,d=val (Ul.drop i) / val (VV.take n):=⟨_,rfl⟩;rw [← hd] at hq8 ⊢;have Hd:=qh hd;clear BO7 hB7 hul7 huv7 hg7 hd HST2;go_wp2_with fail;refine ⟨⟨i,Ul.take i ++ (u' ++ (Ul.drop i).drop (n+1)),d :: suf,rfl,by omega,?_,?_,?_,?_,HB7.o.far _ _ (by simpa using hneO.symm),BV7.o.far _ _ (by simp;have:=HgO.o;omega),?_,?_,?_,?_,B27.o.far _ _ (by simp;have:=HgO.o;omega),B37.o.far _ _ (by simp;have:=HgO.o;omega),BW7.o.setCell (by simp;have:=HgO.o;omega) _⟩,by simp [intOf]⟩
     ·simp only [List.length_append,List.length_take,List.length_drop,Hull.o,Hul7.o];omega
     ·exact (hUlw.take i).append (huw7.append ((hUlw.drop i).drop _))
     ·simp only [List.length_cons,Hsl.o];omega
     ·intro z hz;rcases List.mem_cons.1 hz with rfl|hz
      ·exact hq8
      ·exact hsw z hz
     ·have h:=HBO7.o.put i (.int .u32 (d:Int));rw [U32_set,List.replicate_succ',List.append_assoc,List.singleton_append,set_mid _ _ _ _ _ (by simp),List.append_assoc,List.singleton_append] at h;exact h
     ·rw [List.take_append_of_le_length (by rw [List.length_take,Hull.o];omega),List.take_take,Nat.min_self];have h1:=congrArg (List.take i) Htk.o;rw [List.take_take,List.take_take,Nat.min_eq_left (by omega)] at h1;exact h1
     ·rw [List.drop_left' (by rw [List.length_take,Hull.o];omega),val_append,Hpost.o,Nat.mul_zero,Nat.add_zero,Huv7.o];exact Nat.mod_lt _ hVV.out
     ·rw [List.drop_left' (by rw [List.length_take,Hull.o];omega),val_append,Hpost.o,Nat.mul_zero,Nat.add_zero,Huv7.o,Hd.o];exact HS.o
    ·obtain rfl:j=0:=by omega
     rw [List.replicate_zero,List.nil_append] at bO;rw [List.drop_zero,List.drop_zero,HUv.o,HV1.o] at hsum;rw [List.drop_zero,HV1.o] at hR;obtain ⟨hQ,hRR⟩:=div_last (Nat.pow_pos (by omega)) hb0 hsum hR;have HRO:=qh (RL_blk bO hsw (K+1) (by rw [hsl];omega));have HRU:=qh (RL_blk bU hUlw (n+K+1) hUll.symm);have HQ:=qh hQ;have HRR:=qh hRR;have Hsl:=qh hsl;have Hull:=qh hUll;have b2':=qh b2;have b3':=qh b3;have Hbw:=qh hbw;clear hQ hRR hsl hUll htk hR hsum bU bV bO b2 b3 hbw;go_wp2_with fail;refine (nat_trim _ _ suf HRO.o (by rw [Hsl.o];omega)).mono ?_;rintro e w7 ⟨v7,rfl,hr7,hb7⟩;rw [HQ.o] at hr7;have HR7:=qh hr7;obtain ⟨A7,c7,rfl,-⟩:=hr7.form;have HRU7:=qh (HRU.o.below hb7 ql);have B27:=qh (b2'.out.below hb7 b2'.out.lt);have B37:=qh (b3'.out.below hb7 b3'.out.lt);have Hb7:=qh hb7;clear hr7 hb7;go_wp2_with fail;refine (nat_back _ _ Ul s HRU7.o (by rw [Hull.o];omega) hs32).mono ?_;rintro e w8 ⟨v8,out8,rfl,hr8,hv8,hl8,hb8⟩;rw [HRR.o] at hv8;have HR8:=qh hr8;have Hv8:=qh hv8;have Hl8:=qh hl8;have HR78:=qh (HR7.o.below hb8 ql);have B28:=qh (B27.o.below hb8 B27.o.lt);have B38:=qh (B37.o.below hb8 B37.o.lt);have Hb8:=qh hb8;clear hr8 hv8 hl8 hb8;go_wp2_with fail;refine (nat_trim _ _ out8 HR8.o (by rw [Hl8.o,Hull.o];omega)).mono ?_;rintro e w9 ⟨v9,rfl,hr9,hb9⟩;rw [Hv8.o] at hr9;obtain ⟨A9,c9,rfl,-⟩:=hr9.form;have HR9:=qh hr9;have HR79:=qh (HR78.o.below hb9 ql);have hB2:=B28.o.below hb9 B28.o.lt;have hB3:=B38.o.below hb9 B38.o.lt;obtain ⟨c2,f2⟩:=hB2.cf1;obtain ⟨c3,f3⟩:=hB3.cf1;have HB29:=qh hB2;have HB39:=qh hB3;have Hb9:=qh hb9;clear hr9 hB2 hB3 hb9
     go_wp2
     refine bodyPost_ret (v:=.tuple #[.agg #[.slice A7 (wordsOf (p / q)).length c7],.agg #[.slice A9 (wordsOf (p % q)).length c9],.bool true]) (by simp [results,Tryz.results86,go_sem,c2,c3];try rfl) rfl ?_;refine ⟨_,_,rfl,?_,?_,?_⟩
     ·exact RL.far (RL.far HR79.o HB29.o (by simp) _ _) (HB39.o.far _ _ (by simp)) (by simp) _ _
     ·exact RL.far (RL.far HR9.o HB29.o (by simp) _ _) (HB39.o.far _ _ (by simp)) (by simp) _ _
     ·have h1:=Hbw.o.trans (Hb7.o.mono Hbw.o.size);have h2:=h1.trans (Hb8.o.mono h1.size);have h3:=h2.trans (Hb9.o.mono h2.size);exact (h3.setCell (by simp;omega) _).setCell (by simp;omega) _
theorem nat_Gcd (w:World) (x y:Value) (a b:List Nat) (hx:RL w x a) (hy:RL w y b) (ha:a.length≤1000000) (hb:b.length≤1000000) :
    Calls Tryz.prog 140 #[.agg #[x],.agg #[y]] w fun e w'=>∃ v,e=.returned (.agg #[v])∧RN w' v (Nat.gcd (val a) (val b))∧Below w.heap.size w w':=by
  have ha9:a.length≤1000000000:=by omega
  have hb9:b.length≤1000000000:=by omega
  have HXI:Hid (∀ {n:Int},x≠.int .u32 n):=fun h=>by obtain ⟨A,c,h2,-⟩:=hx.form;rw [h2] at h;cases h
  have HYI:Hid (∀ {n:Int},y≠.int .u32 n):=fun h=>by obtain ⟨A,c,h2,-⟩:=hy.form;rw [h2] at h;cases h
  have HA:Hid ((wordsOf (val a)).length≤1000000):=Nat.le_trans (length_val hx.2) ha
  have HB':Hid ((wordsOf (val b)).length≤1000000):=Nat.le_trans (length_val hy.2) hb
  go_enter Tryz.func140,Tryz.ntmps140
  go_upto_region 1 with fail
  go_cut [] (fun wx=>∃ u v,Blk wx w.heap.size 24 [u]∧Blk wx (w.heap.size+1) 24 [v]∧Blk wx (w.heap.size+1+1) 24 [.slice none 0 0]∧RN wx u (val a)∧RN wx v (val b)∧Below w.heap.size w wx)
  case first =>
    refine wp_letter (fun w1=>Blk w1 w.heap.size 24 [x]∧Blk w1 (w.heap.size+1) 24 [y]∧Blk w1 (w.heap.size+1+1) 24 [.slice none 0 0]∧Below w.heap.size w w1) ⟨((Blk.made w 24 _ _ _ rfl rfl).alloc _).alloc _,(Blk.made _ 24 _ _ _ (by simp) rfl).alloc _,Blk.made _ 24 _ _ _ (by simp) rfl,(((Below.refl _ _).alloc (by simp) _).alloc (by simp) _).alloc (by simp;omega) _⟩ ?_
    rintro w1 ⟨B0,B1,B2,hB⟩
    have hN:w.heap.size+3≤w1.heap.size:=B2.lt
    have HX:Hid (∀ w',Below (w.heap.size+3) w1 w'→RL w' x a∧RL w' y b∧Blk w' w.heap.size 24 [x]∧Blk w' (w.heap.size+1) 24 [y]∧Blk w' (w.heap.size+1+1) 24 [.slice none 0 0]∧Below w.heap.size w w' ∧
        w'.cell? ⟨w.heap.size,0,none⟩=some x∧w'.cell? ⟨w.heap.size+1,0,none⟩=some y∧w'.frozen? ⟨w.heap.size,0,none⟩=false∧w'.frozen? ⟨w.heap.size+1,0,none⟩=false):=fun w' h=>by
      have b0:=B0.below h (by omega)
      have b1:=B1.below h (by omega)
      exact ⟨hx.below (hB.trans (h.mono (by omega))) ql,hy.below (hB.trans (h.mono (by omega))) ql,b0,b1,B2.below h (by omega),hB.trans (h.mono (by omega)),b0.cell 0,b1.cell 0,b0.frozen 0,b1.frozen 0⟩
    have cx:=B0.c1
    have cy:=B1.c1
    clear hx hy B0 B1 B2 hB
    go_region_with ((first
      | ((with_reducible refine (nat_trim _ x a ?_ ha9).mono ?_)
         · exact (HX.o _ (Below.refl _ _).drew).1
         rintro e w2 ⟨v2,rfl,hr2,hb2⟩
         have Hb2:=qh (below_on (Below.refl (w.heap.size+3) w1).drew hN hb2)
         have HR2:=qh hr2
         obtain ⟨A2,c2,rfl,-⟩:=hr2.form
         obtain ⟨-,-,-,-,-,-,cx2,cy2,fx2,fy2⟩:=HX.o _ Hb2.o
         clear hr2 hb2)
      | ((with_reducible refine (nat_trim _ y b ?_ hb9).mono ?_)
         · exact (HX.o _ Hb2.o).2.1
         rintro e w3 ⟨v3,rfl,hr3,hb3⟩
         have Hb3:=qh (below_on Hb2.o hN hb3)
         have HR3:=qh hr3
         have HR23:=qh (HR2.o.below hb3 ql)
         obtain ⟨A3,c3,rfl,-⟩:=hr3.form
         obtain ⟨-,-,-,-,-,-,cx3,cy3,fx3,fy3⟩:=HX.o _ Hb3.o
         clear hr3 hb3)))
    all_goals
      go_wp2_with fail
      go_meet
      obtain ⟨-,-,b0,b1,b2,bb,-,-,-,-⟩:=HX.o _ Hb3.o
      have c0:=b0.put 0 (.slice A2 (wordsOf (val a)).length c2)
      have c1:=(b1.far ⟨w.heap.size,0,none⟩ (.slice A2 (wordsOf (val a)).length c2) (by simp)).put 0 (.slice A3 (wordsOf (val b)).length c3)
      have r2:RN _ (.slice A2 (wordsOf (val a)).length c2) (val a):=RL.far (RL.far HR23.o b0 (by intro z hz n hn;simp at hz;subst hz;subst hn;exact HXI.o rfl) 0 (.slice A2 (wordsOf (val a)).length c2)) (b1.far ⟨w.heap.size,0,none⟩ (.slice A2 (wordsOf (val a)).length c2) (by simp)) (by intro z hz n hn;simp at hz;subst hz;subst hn;exact HYI.o rfl) 0 (.slice A3 (wordsOf (val b)).length c3)
      have r3:RN _ (.slice A3 (wordsOf (val b)).length c3) (val b):=RL.far (RL.far HR3.o b0 (by intro z hz n hn;simp at hz;subst hz;subst hn;exact HXI.o rfl) 0 (.slice A2 (wordsOf (val a)).length c2)) (b1.far ⟨w.heap.size,0,none⟩ (.slice A2 (wordsOf (val a)).length c2) (by simp)) (by intro z hz n hn;simp at hz;subst hz;subst hn;exact HYI.o rfl) 0 (.slice A3 (wordsOf (val b)).length c3)
      exact ⟨_,_,c0.far _ _ (by simp),c1,(b2.far _ _ (by simp;try omega)).far _ _ (by simp;try omega),r2,r3,(bb.setCell (by simp) _).setCell (by simp) _⟩
  case rest =>
    obtain ⟨u,v,B0,B1,B2,hu,hv,hB⟩:=hcut
    have HB0:=qh B0
    have HB1:=qh B1
    have HB2:=qh B2
    have Hu:=qh hu
    have Hv:=qh hv
    have HBw:=qh hB
    clear B0 B1 B2 hu hv hB ha hb ha9 hb9
    have HPA:Hid (∃ c,c=val a):=⟨_,rfl⟩
    obtain ⟨p0,hp0⟩:=HPA.o
    have HQB0:Hid (∃ c,c=val b):=⟨_,rfl⟩
    obtain ⟨q0,hq0⟩:=HQB0.o
    rw [← hp0] at HA Hu
    rw [← hq0] at HB' Hv
    have HP0:=qh hp0
    have HQ0:=qh hq0
    clear hp0 hq0 HPA HQB0
    go_step
    go_wp2_with fail
    go_loopg [] q0 (fun G wr=>∃ (u v:Value) (p q:Nat),G=q∧Blk wr w.heap.size 24 [u]∧Blk wr (w.heap.size+1) 24 [v]∧Blk wr (w.heap.size+1+1) 24 [.slice none 0 0]∧RN wr u p∧RN wr v q∧Nat.gcd p q=Nat.gcd p0 q0 ∧
        (wordsOf p).length≤1000000∧(wordsOf q).length≤1000000∧Below w.heap.size w wr)
    case atStart=>exact ⟨u,v,p0,q0,rfl,HB0.o,HB1.o,HB2.o,Hu.o,Hv.o,rfl,HA.o,HB'.o,HBw.o⟩
    case round =>
      obtain ⟨u,v,p,q,rfl,B0,B1,B2,hu,hv,hg,hp,hq,hbw⟩:=hrel
      have Hu:=qh hu
      have Hv:=qh hv
      have Hg:=qh hg
      have Hp:=qh hp
      have Hq:=qh hq
      obtain ⟨Au,cu,rfl,-⟩:=hu.form
      obtain ⟨Av,cv,rfl,-⟩:=hv.form
      have c0:=B0.c1
      have c1:=B1.c1
      have c2:=B2.c1
      have f0:=B0.frozen 0
      have f1:=B1.frozen 0
      have f2:=B2.frozen 0
      have HB0:=qh B0
      have HB1:=qh B1
      have HB2:=qh B2
      have HBw:=qh hbw
      have hz:=B2.lt
      clear hu hv hg hp hq hbw B0 B1 B2
      have HD:Hid (0<gk→∀ w',Below w'.heap.size wr w'→True):=fun _ _ _=>trivial
      by_cases hq0:0<(wordsOf gk).length
      · have HQ9:Hid (0<val (wordsOf gk)):=by
          rw [Hid,val_wordsOf]
          rcases Nat.eq_zero_or_pos gk with h|h
          · subst h;simp [wordsOf_zero] at hq0
          · exact h
        have HMM:Hid (p % gk<gk):=Nat.mod_lt _ (by have:=HQ9.o;rwa [val_wordsOf] at this)
        have HLL:Hid ((wordsOf (p % gk)).length≤1000000):=Nat.le_trans (length_mono (Nat.le_of_lt HMM.o)) Hq.o
        go_wp2_with fail
        refine (nat_Div wr _ _ (wordsOf p) (wordsOf gk) Hu.o Hv.o (by have:=Hp.o;omega) (by have:=Hq.o;omega) HQ9.o).mono ?_
        rintro e w2 ⟨vq,vr,rfl,hq2,hr2,hb2⟩
        rw [val_wordsOf,val_wordsOf] at hq2 hr2
        obtain ⟨A2,d2,rfl,-⟩:=hq2.form
        obtain ⟨A3,d3,rfl,-⟩:=hr2.form
        clear HA HB'
        have HQ2:=qh hq2
        have HR2:=qh hr2
        have HB2w:=qh hb2
        have HV2:Hid (RN w2 (.slice Av (wordsOf gk).length cv) gk):=Hv.o.below hb2 ql
        have hz2:=hb2.size
        clear hq2 hr2 hb2 c0 c1 c2 f0 f1 f2
        obtain ⟨b0,b1,b2⟩:Blk w2 w.heap.size 24 _∧Blk w2 (w.heap.size+1) 24 _∧Blk w2 (w.heap.size+1+1) 24 _:=⟨HB0.o.below HB2w.o (by omega),HB1.o.below HB2w.o (by omega),HB2.o.below HB2w.o (by omega)⟩
        have c0:=b0.c1
        have c1:=b1.c1
        have f0:=b0.frozen 0
        have f1:=b1.frozen 0
        dsimp only
        go_wp2_with fail
        refine wp_letter (fun w3=>Blk w3 w.heap.size 24 [.slice Au (wordsOf p).length cu]∧Blk w3 (w.heap.size+1) 24 [.slice Av (wordsOf gk).length cv]∧Blk w3 (w.heap.size+1+1) 24 [.slice none 0 0]∧Below w.heap.size w w3 ∧
            RN w3 (.slice A3 (wordsOf (p % gk)).length d3) (p % gk)∧RN w3 (.slice Av (wordsOf gk).length cv) gk∧Blk w3 (w2.heap.size+1) 24 [.slice A3 (wordsOf (p % gk)).length d3]) ⟨(b0.alloc _).alloc _,(b1.alloc _).alloc _,(b2.alloc _).alloc _,
              ((below_after HBw.o (by omega) HB2w.o).alloc (by omega) _).alloc (by simp;omega) _,
              (HR2.o.below (((Below.refl _ _).alloc ql _).alloc (by simp) _) ql),(HV2.o.below (((Below.refl _ _).alloc ql _).alloc (by simp) _) ql),Blk.made _ 24 _ _ _ (by simp) rfl⟩ ?_
        clear b0 b1 b2 HQ2 HR2 HV2 HB2w HBw HB0 HB1 HB2 Hu Hv
        rintro w3 ⟨b0,b1,b2,hb3,hr3,hv3,b6⟩
        have c0:=b0.c1
        have c1:=b1.c1
        have c6:=b6.c1
        have f0:=b0.frozen 0
        have f1:=b1.frozen 0
        have H0:=qh b0
        have H1:=qh b1
        have H2:=qh b2
        have HB3:=qh hb3
        have HR3:=qh hr3
        have HV3:=qh hv3
        clear b0 b1 b2 hb3 hr3 hv3 b6
        go_region
        all_goals
          go_wp2_with fail
          go_roundg (p % gk)
          case measure=>exact HMM.o
          case rel =>
            have e0:=H0.o.put 0 (.slice Av (wordsOf gk).length cv)
            have e1:=(H1.o.far ⟨w.heap.size,0,none⟩ (.slice Av (wordsOf gk).length cv) (by simp)).put 0 (.slice A3 (wordsOf (p % gk)).length d3)
            have e2:=(H2.o.far ⟨w.heap.size,0,none⟩ (.slice Av (wordsOf gk).length cv) (by simp;try omega)).far ⟨w.heap.size+1,0,none⟩ (.slice A3 (wordsOf (p % gk)).length d3) (by simp)
            have r1:RN _ (.slice Av (wordsOf gk).length cv) gk:=RN.far (HV3.o.far H0.o (by simp) 0 (.slice Av (wordsOf gk).length cv)) (H1.o.far ⟨w.heap.size,0,none⟩ (.slice Av (wordsOf gk).length cv) (by simp)) (by simp) 0 (.slice A3 (wordsOf (p % gk)).length d3)
            have r2:RN _ (.slice A3 (wordsOf (p % gk)).length d3) (p % gk):=RN.far (HR3.o.far H0.o (by simp) 0 (.slice Av (wordsOf gk).length cv)) (H1.o.far ⟨w.heap.size,0,none⟩ (.slice Av (wordsOf gk).length cv) (by simp)) (by simp) 0 (.slice A3 (wordsOf (p % gk)).length d3)
            exact ⟨_,_,gk,p % gk,rfl,(e0.far _ _ (by simp)).drewN 1,e1.drewN 1,e2.drewN 1,r1.drewN 1,r2.drewN 1,by rw [← Hg.o,Nat.gcd_comm,← Nat.gcd_rec gk p,Nat.gcd_comm],Hq.o,HLL.o,((HB3.o.setCell (by simp) _).setCell (by simp) _).drew⟩
      · have e0:gk=0:=by
          rcases Nat.eq_zero_or_pos gk with h|h
          · exact h
          · exact absurd (List.length_pos_iff.2 (fun h2=>by rw [wordsOf_eq_nil] at h2;omega)) hq0
        subst e0
        have HG0:Hid (p=Nat.gcd p0 q0):=by rw [Hid];rw [← Hg.o,Nat.gcd_zero_right]
        go_wp2_with fail
        refine (clone_u32 wr _ _ Hu.o (by have:=Hp.o;omega)).mono ?_
        rintro e w2 ⟨v2,rfl,hr2,hb2⟩
        rw [HG0.o] at hr2
        obtain ⟨A2,d2,rfl,-⟩:=hr2.form
        have b2:=HB2.o.below hb2 (by omega)
        have c2:=b2.c1
        have f2:=b2.frozen 0
        have HR2:=qh hr2
        have HQB:=qh (below_after HBw.o (by omega) hb2)
        have HB22:=qh b2
        clear hr2 hb2 b2 c0 c1
        dsimp only
        go_wp2_with fail
        refine bodyPost_ret (v:=.agg #[.slice A2 (wordsOf (Nat.gcd p0 q0)).length d2]) (by simp [results,Tryz.results140,go_sem,(HB22.o.put 0 (.slice A2 (wordsOf (Nat.gcd p0 q0)).length d2)).cell 0];try rfl) rfl ?_
        rw [← HP0.o,← HQ0.o]
        refine ⟨_,rfl,RN.far (show RN w2 _ (Nat.gcd p0 q0) from HR2.o) HB22.o (by simp) 0 _,HQB.o.setCell (by simp;omega) _⟩
end Go.Proofs.YtdgleeglndcjhaaGreatDoor
