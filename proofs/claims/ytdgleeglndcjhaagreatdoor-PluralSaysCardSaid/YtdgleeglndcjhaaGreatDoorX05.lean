import Derived.Test.YtdgleeglndcjhaaGreatDoorX04
set_option linter.unusedSimpArgs false
set_option linter.unusedVariables false
set_option maxHeartbeats 8000000
set_option maxRecDepth 100000
namespace Go.Proofs.YtdgleeglndcjhaaGreatDoor
open Go.RowKit
theorem firsts_snoc (L:List (Nat × Nat)) (e:Nat × Nat):firsts (L ++ [e])=firsts L ++ [(e.1:Int)]:=by simp [firsts]
theorem seconds_snoc (L:List (Nat × Nat)) (e:Nat × Nat):seconds (L ++ [e])=seconds L ++ [(e.2:Int)]:=by simp [seconds]
theorem grown_of_below {w w':World} {row:Option Nat} (h:Below w.heap.size w w'):w.grownBy w' row:=⟨h.os,h.tape,h.output,h.size,fun k hk _=>h.block k hk⟩
theorem str_far {w:World} {g b j:Nat} {x:ByteArray} {vs:List Value} (hB:Blk w g 47 vs) (hv:∀ u ∈ vs,∀ x,u≠.string x) (h:w.cell? ⟨b,j,none⟩=some (.string x)):b≠g:=by
 rintro rfl;rw [hB.cell] at h;exact hv _ (List.mem_of_getElem? h) x rfl
theorem rule_list (W0 w:World) (g:Nat) (l m:Int) (nt:Bool) (s:ByteArray) (hG:GW W0) (h0:Below W0.heap.size W0 w) (hg0:W0.heap.size≤g)
  (hb:Blk w g 47 [.int .u8 l,.int .i64 m,.bool nt,.slice none 0 0,.slice none 0 0]) (hs:s.size≤1000000) :
  Calls Tryz.prog 83 #[.pointer (some ⟨g,0,none⟩),.string s] w (ListPost w g [.int .u8 l,.int .i64 m,.bool nt] s.data.toList):=by
 have hgW:=hb.lt;have HX:=qh hb;have hGw:=hG.below h0 ql;have HG0:=qh hG;have H0:=qh h0;have hsl:s.data.toList.length≤1000000:=by rw [← Lib.size_eq];exact hs
 obtain ⟨i3,hi,hz0,hz1,hz2⟩:=info_parts Tryz_info3;clear hG h0 hb;go_enter Tryz.func83,Tryz.ntmps83;go_wp2_with fail;refine (str_split s 44 w hGw hs).mono ?_;rintro e w1 ⟨⟨A,n,c,rfl,hS⟩,hb1⟩;have hn:=hS.len;obtain ⟨ws,hws⟩:∃ ws,splitG 44 s.data.toList=ws:=⟨_,rfl⟩;rw [hws] at hS hn;have hwl:ws.length≤1000001:=by rw [← hws];have:=splitG_length 44 s.data.toList;omega
 have hwm:∀ t ∈ ws,t.length≤1000000:=by rw [← hws];exact fun t ht=>Nat.le_trans (splitG_mem_len 44 _ t ht) hsl
 have hls:list? s.data.toList=all? item? ws:=by unfold list?;rw [hws]
 have HLS:=qh hls;have HWM:=qh hwm;have HS:=qh hS;have HB1:=qh hb1;have X1:=qh (HX.o.below hb1 hgW);subst hn;have hlI:(ws.length:Int)≤1000001:=by omega
 have hg1:g<w1.heap.size:=Nat.lt_of_lt_of_le hgW hb1.size;clear hws hwm hS hb1 hGw hsl hls;dsimp only;go_wp2_with fail;go_loopw [16] (fun i wr=>ListW w1 g [.int .u8 l,.int .i64 m,.bool nt] ws i wr) (fun i _=>ws.length - (intOf i).toNat)
 case atStart =>
  exact ⟨0,[],_,_,Nat.zero_le _,rfl,rfl,rfl,X1.o,World.ownsRow_nil _ _ _ _,World.ownsRow_nil _ _ _ _,.inl rfl,⟨rfl,rfl,rfl,ql,fun k hk _=>rfl⟩⟩
 case round =>
  obtain ⟨k,L,vF,vT,hk,rfl,hL,hLk,hI⟩:=hrel;by_cases hlt:k<ws.length
  ·obtain ⟨b,o,rfl,hc⟩:=HS.o.at (by omega);obtain ⟨t,ht⟩:∃ t,ws[k]?=some t:=⟨ws[k],List.getElem?_eq_getElem hlt⟩;have hc1:=hc k t ht
   have hck:wr.cell? ⟨b,o+k,none⟩=some (.string ⟨t.toArray⟩) :=
    (hI.gr.cell_far ⟨b,o+k,none⟩ (World.block_lt_of_cell? w1 _ hc1) (by intro e;exact str_far X1.o (by simp) hc1 (Option.some.inj e))).trans hc1
   have htl:=HWM.o t (List.mem_of_getElem? ht);have htk:ws.take (k+1)=ws.take k ++ [t]:=by rw [List.take_add_one,ht];rfl
   have hGr:GW wr:=HG0.o.below (below_grown (H0.o.trans (HB1.o.mono H0.o.size)) hI.gr (Nat.le_trans H0.o.size HB1.o.size) (by intro j hj;cases hj;exact hg0)) ql;have HT:=qh ht;have HTK:=qh htk;have HL:=qh hL;have HI:=qh hI;have hkI:(k:Int)<(ws.length:Int):=by omega
   have hk0:(0:Int)≤(k:Int):=by omega
   have hgr:=HI.o.gr.size;clear hc hc1 ht htk hL hI;obtain ⟨a,bb,two,hcut⟩:∃ a b two,Lib.cut t [46,46]=(a,b,two):=⟨_,_,_,rfl⟩;have hcl:=cut_lens t [46,46];rw [hcut] at hcl;have hal:a.length≤1000000:=Nat.le_trans hcl.1 htl;have hbl:bb.length≤1000000:=Nat.le_trans hcl.2 htl;have HC:=qh hcut;clear hcl;have hmx:=maxLen_ge;cases two
   ·cases hna:num? a with
    | none =>
     have HNA:=qh hna;clear hna hcut;go_wp2_with fail;refine (str_cut_is _ t a bb false hGr htl HC.o).mono ?_;rintro e w2 ⟨rfl,hb2⟩;have HI2:=qh (HI.o.below hb2);clear hck hb2;dsimp only;go_wp2_with fail;refine (rule_number_none _ a hal HNA.o).mono ?_;rintro e w3 ⟨rfl,hb3⟩;have HI9:=qh (HI2.o.below hb3);clear hb3;dsimp only;go_wp2_with fail;go_ret
     refine ⟨vF,vT,HI9.o.blk,(grown_of_below HB1.o).trans HI9.o.gr,HI9.o.fr.form,HI9.o.tl.form,.inr ⟨?_,rfl⟩⟩;rw [HLS.o];exact all?_bad HT.o (by unfold item?;rw [HC.o];simp [HNA.o])
    | some f =>
     have hfb:=(num?_some hna).2;have hff:¬ (f:Int)<(f:Int):=by omega
     have hit:item? t=some (f,f):=by unfold item?;rw [hcut];simp [hna]
     have HIT:=qh hit;clear hit;have HNA:=qh hna;clear hna hcut;go_wp2_with fail;refine (str_cut_is _ t a bb false hGr htl HC.o).mono ?_;rintro e w2 ⟨rfl,hb2⟩;have HI2:=qh (HI.o.below hb2);clear hck hb2;dsimp only;go_wp2_with fail;refine (rule_number_some _ a f hal HNA.o).mono ?_;rintro e w3 ⟨rfl,hb3⟩;have HI9:=qh (HI2.o.below hb3);clear hb3;dsimp only;obtain ⟨c3,c4,d3,d4⟩:=HI9.o.cells;have hfl:(firsts L).length≤1000001:=by simp only [firsts,List.length_map];omega
     have hsl:(seconds L).length≤1000001:=by simp only [seconds,List.length_map];omega
     go_wp2_with (first
      | (at_builtin;refine wpList_append_lies _ (by rfl) (.tmp 52) (.tmp 54) 45 (by rfl) w1.heap.size 3 i3 (.int .i64 0) 1 8 Tryz.underlying45 hi hz0 hz1 hz2 rfl (by decide) vF (firsts L).length (ints (firsts L)) (by rfl) (World.ownsRow.alloc HI9.o.fr _) ⟨w3.heap.size,0,none⟩ 1 1 [.int .i64 (f:Nat)] (by rfl) rfl (cell_one_new _ _ _) (by simp [Value.oneCell']) (by omega) (by omega) (by omega) (by have:=HI9.o.gr.size;simp;omega) (w3.heap.size+1) (by simp) ?_;intro g1 cap1 w5 hown hgrow hat hlt5;obtain ⟨hf,k3,k4,f3,f4⟩:=ListI.from (HI9.o.alloc _) hg1 hgrow hown (hat.imp id fun h=>by rw [h];simp);have HF:=qh hf;have hz5:=HF.o.gr.size;clear hown hgrow hat hf c3 c4 d3 d4)
      | (at_builtin;refine wpList_append_lies _ (by rfl) (.tmp 62) (.tmp 64) 45 (by rfl) w1.heap.size 3 i3 (.int .i64 0) 1 8 Tryz.underlying45 hi hz0 hz1 hz2 rfl (by decide) vT (seconds L).length (ints (seconds L)) (by rfl) (World.ownsRow.alloc HF.o.tl _) ⟨w5.heap.size,0,none⟩ 1 1 [.int .i64 (f:Nat)] (by rfl) rfl (by simpa using cell_one_new (w5.setCell ⟨g,3,none⟩ (.slice (some ⟨g1,0,none⟩) ((firsts L).length+1) cap1)) (.int .i64 (f:Nat)) 3) (by simp [Value.oneCell']) (by omega) (by omega) (by omega) (by simp at hz5 ⊢;omega) (w5.heap.size+1) (by simp) ?_;intro g2 cap2 w6 hown hgrow hat hlt6;obtain ⟨hf,k5,f5⟩:=ListI.till (HF.o.alloc _) hg1 hgrow hown (hat.imp id fun h=>by rw [h];simp);have HF2:=qh hf;clear hown hgrow hat hf k3 k4 f3 f4))
     go_roundw
     case rel =>
      refine ⟨k+1,L ++ [(f,f)],.slice (some ⟨g1,0,none⟩) ((firsts L).length+1) cap1,.slice (some ⟨g2,0,none⟩) ((seconds L).length+1) cap2,by omega,by go_num,?_,by simp [hLk],?_⟩
      ·rw [HTK.o];exact all?_snoc HL.o HIT.o
      ·rw [firsts_snoc,seconds_snoc];exact HF2.o
     case measure=>simp [intOf];omega
   ·cases hna:num? a with
    | none =>
     have HNA:=qh hna;clear hna hcut;go_wp2_with fail;refine (str_cut_is _ t a bb true hGr htl HC.o).mono ?_;rintro e w2 ⟨rfl,hb2⟩;have HI2:=qh (HI.o.below hb2);clear hck hb2;dsimp only;go_wp2_with fail;refine (rule_number_none _ a hal HNA.o).mono ?_;rintro e w3 ⟨rfl,hb3⟩;have HI9:=qh (HI2.o.below hb3);clear hb3;dsimp only;go_wp2_with fail;go_ret
     refine ⟨vF,vT,HI9.o.blk,(grown_of_below HB1.o).trans HI9.o.gr,HI9.o.fr.form,HI9.o.tl.form,.inr ⟨?_,rfl⟩⟩;rw [HLS.o];exact all?_bad HT.o (by unfold item?;rw [HC.o];simp [HNA.o])
    | some f =>
     have hfb:=(num?_some hna).2;cases hnb:num? bb with
     | none =>
      have HNB:=qh hnb;clear hnb;have HNA:=qh hna;clear hna hcut;go_wp2_with fail;refine (str_cut_is _ t a bb true hGr htl HC.o).mono ?_;rintro e w2 ⟨rfl,hb2⟩;have HI2:=qh (HI.o.below hb2);clear hck hb2;dsimp only;go_wp2_with fail;refine (rule_number_some _ a f hal HNA.o).mono ?_;rintro e w3 ⟨rfl,hb3⟩;have HI3:=qh (HI2.o.below hb3);clear hb3;dsimp only;go_wp2_with fail;refine (rule_number_none _ bb hbl HNB.o).mono ?_;rintro e w4 ⟨rfl,hb4⟩;have HI9:=qh (HI3.o.below hb4);clear hb4;dsimp only;go_wp2_with fail;go_ret
      refine ⟨vF,vT,HI9.o.blk,(grown_of_below HB1.o).trans HI9.o.gr,HI9.o.fr.form,HI9.o.tl.form,.inr ⟨?_,rfl⟩⟩;rw [HLS.o];exact all?_bad HT.o (by unfold item?;rw [HC.o];simp [HNA.o,HNB.o])
     | some x =>
      have hxb:=(num?_some hnb).2;by_cases hfx:f≤x
      ·have hff:¬ (x:Int)<(f:Int):=by omega
       have hit:item? t=some (f,x):=by unfold item?;rw [hcut];simp [hna,hnb,hfx]
       have HIT:=qh hit;clear hit;have HNB:=qh hnb;clear hnb;have HNA:=qh hna;clear hna hcut;go_wp2_with fail;refine (str_cut_is _ t a bb true hGr htl HC.o).mono ?_;rintro e w2 ⟨rfl,hb2⟩;have HI2:=qh (HI.o.below hb2);clear hck hb2;dsimp only;go_wp2_with fail;refine (rule_number_some _ a f hal HNA.o).mono ?_;rintro e w3 ⟨rfl,hb3⟩;have HI3:=qh (HI2.o.below hb3);clear hb3;dsimp only;go_wp2_with fail;refine (rule_number_some _ bb x hbl HNB.o).mono ?_;rintro e w4 ⟨rfl,hb4⟩;have HI9:=qh (HI3.o.below hb4);clear hb4;dsimp only;obtain ⟨c3,c4,d3,d4⟩:=HI9.o.cells;have hfl:(firsts L).length≤1000001:=by simp only [firsts,List.length_map];omega
       have hsl:(seconds L).length≤1000001:=by simp only [seconds,List.length_map];omega
       go_wp2_with (first
        | (at_builtin;refine wpList_append_lies _ (by rfl) (.tmp 52) (.tmp 54) 45 (by rfl) w1.heap.size 3 i3 (.int .i64 0) 1 8 Tryz.underlying45 hi hz0 hz1 hz2 rfl (by decide) vF (firsts L).length (ints (firsts L)) (by rfl) (World.ownsRow.alloc HI9.o.fr _) ⟨w4.heap.size,0,none⟩ 1 1 [.int .i64 (f:Nat)] (by rfl) rfl (cell_one_new _ _ _) (by simp [Value.oneCell']) (by omega) (by omega) (by omega) (by have:=HI9.o.gr.size;simp;omega) (w4.heap.size+1) (by simp) ?_;intro g1 cap1 w5 hown hgrow hat hlt5;obtain ⟨hf,k3,k4,f3,f4⟩:=ListI.from (HI9.o.alloc _) hg1 hgrow hown (hat.imp id fun h=>by rw [h];simp);have HF:=qh hf;have hz5:=HF.o.gr.size;clear hown hgrow hat hf c3 c4 d3 d4)
        | (at_builtin;refine wpList_append_lies _ (by rfl) (.tmp 62) (.tmp 64) 45 (by rfl) w1.heap.size 3 i3 (.int .i64 0) 1 8 Tryz.underlying45 hi hz0 hz1 hz2 rfl (by decide) vT (seconds L).length (ints (seconds L)) (by rfl) (World.ownsRow.alloc HF.o.tl _) ⟨w5.heap.size,0,none⟩ 1 1 [.int .i64 (x:Nat)] (by rfl) rfl (by simpa using cell_one_new (w5.setCell ⟨g,3,none⟩ (.slice (some ⟨g1,0,none⟩) ((firsts L).length+1) cap1)) (.int .i64 (x:Nat)) 3) (by simp [Value.oneCell']) (by omega) (by omega) (by omega) (by simp at hz5 ⊢;omega) (w5.heap.size+1) (by simp) ?_;intro g2 cap2 w6 hown hgrow hat hlt6;obtain ⟨hf,k5,f5⟩:=ListI.till (HF.o.alloc _) hg1 hgrow hown (hat.imp id fun h=>by rw [h];simp);have HF2:=qh hf;clear hown hgrow hat hf k3 k4 f3 f4))
       go_roundw
       case rel =>
        refine ⟨k+1,L ++ [(f,x)],.slice (some ⟨g1,0,none⟩) ((firsts L).length+1) cap1,.slice (some ⟨g2,0,none⟩) ((seconds L).length+1) cap2,by omega,by go_num,?_,by simp [hLk],?_⟩
        ·rw [HTK.o];exact all?_snoc HL.o HIT.o
        ·rw [firsts_snoc,seconds_snoc];exact HF2.o
       case measure=>simp [intOf];omega
      ·have hff:(x:Int)<(f:Int):=by omega
       have HFX:=qh hfx;clear hfx;have HNB:=qh hnb;clear hnb;have HNA:=qh hna;clear hna hcut;go_wp2_with fail;refine (str_cut_is _ t a bb true hGr htl HC.o).mono ?_;rintro e w2 ⟨rfl,hb2⟩;have HI2:=qh (HI.o.below hb2);clear hck hb2;dsimp only;go_wp2_with fail;refine (rule_number_some _ a f hal HNA.o).mono ?_;rintro e w3 ⟨rfl,hb3⟩;have HI3:=qh (HI2.o.below hb3);clear hb3;dsimp only;go_wp2_with fail;refine (rule_number_some _ bb x hbl HNB.o).mono ?_;rintro e w4 ⟨rfl,hb4⟩;have HI9:=qh (HI3.o.below hb4);clear hb4;dsimp only;go_wp2_with fail;go_ret
       refine ⟨vF,vT,HI9.o.blk,(grown_of_below HB1.o).trans HI9.o.gr,HI9.o.fr.form,HI9.o.tl.form,.inr ⟨?_,rfl⟩⟩;rw [HLS.o];exact all?_bad HT.o (by unfold item?;rw [HC.o];simp [HNA.o,HNB.o,HFX.o])
  ·have hk2:k=ws.length:=by omega
   subst hk2;rw [List.take_length] at hL;have HL:=qh hL;have HI:=qh hI;have hkI:¬ (ws.length:Int)<(ws.length:Int):=by omega
   clear hL hI;go_wp2_with fail;go_ret
   exact ⟨vF,vT,HI.o.blk,(grown_of_below HB1.o).trans HI.o.gr,HI.o.fr.form,HI.o.tl.form,.inl ⟨L,by rw [HLS.o];exact HL.o,rfl,HI.o.fr.intsB HB1.o.size,HI.o.tl.intsB HB1.o.size⟩⟩
end Go.Proofs.YtdgleeglndcjhaaGreatDoor
