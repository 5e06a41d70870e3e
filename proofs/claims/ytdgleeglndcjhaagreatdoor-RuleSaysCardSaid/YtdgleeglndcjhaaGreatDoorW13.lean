import Derived.Test.YtdgleeglndcjhaaGreatDoorW12
set_option linter.unusedSimpArgs false
set_option linter.unusedVariables false
set_option maxHeartbeats 8000000
set_option maxRecDepth 100000
namespace Go.Proofs.YtdgleeglndcjhaaGreatDoor
open Go.RowKit
theorem IntsAre.len {w:World} {A:Option Addr} {n c:Nat} {l:List Int} (h:IntsAre w A n c l):n=l.length:=by
 obtain ⟨A',c',h1,-⟩:=h
 exact (Value.slice.inj h1).2.1
theorem IntsAre.at {w:World} {A:Option Addr} {n c:Nat} {l:List Int} (h:IntsAre w A n c l) (h0:0<l.length):∃ b o,A=some ⟨b,o,none⟩∧∀ (j:Nat) (x:Int),l[j]?=some x→w.cell? ⟨b,o+j,none⟩=some (.int .i64 x):=by
 obtain ⟨A',c',h1,h2,h3,h4⟩:=h
 obtain ⟨b,o,h5,h6⟩:=h4 (by simpa [ints] using h0)
 obtain ⟨rfl,-,-⟩:=Value.slice.inj h1
 exact ⟨b,o,h5,fun j x hx=>h6 j _ (by simp [ints,hx])⟩
theorem ba_app (a b:Bs):(⟨a.toArray⟩:ByteArray) ++ ⟨b.toArray⟩=⟨(a ++ b).toArray⟩:=by
 apply ByteArray.ext
 simp
theorem OwnS.strs {w:World} {B:Nat} {x:Value} {ws:List Bs} (h:OwnS w B x ws):∃ A n c,x=.slice A n c∧StrsAre w A n c ws:=by
 have h1:=SlC.own h
 obtain ⟨A,c,rfl,-⟩:=h1
 exact ⟨A,_,c,rfl,SlC.own h⟩
def headW (c:Cnd):Bs:=[UInt8.ofNat c.letter] ++ (if c.mod=0 then [] else [32,37,32] ++ Lib.itoa c.mod) ++ (if c.nt then [32,33,61] else [32,61])
def WW (W:World) (c:Cnd) (v i:Value) (wr:World):Prop :=
 ∃ k:Nat,k≤c.fr.length∧k≤c.to.length∧i=.int .i64 k∧OwnS wr W.heap.size v ((items c.fr c.to).take k)∧Below W.heap.size W wr
theorem cond_write (w:World) (c:Cnd) (FA TA:Option Addr) (fn fc tn tc:Nat) (hG:GW w) (hf:IntsAre w FA fn fc c.fr) (ht:IntsAre w TA tn tc c.to) (hs:SmallC c) :
  Calls Tryz.prog 100 #[.agg #[.int .u8 (c.letter:Int),.int .i64 c.mod,.bool c.nt,.slice FA fn fc,.slice TA tn tc]] w fun e w'=>e=.returned (.string ⟨(writeC c).toArray⟩)∧Below w.heap.size w w':=by
 obtain rfl:fn=c.fr.length:=hf.len
 obtain rfl:tn=c.to.length:=ht.len
 obtain ⟨i9,hi9,hz90,hz91,hz92⟩:=info_parts Tryz_info9
 have HG:=qh hG
 have HF:=qh hf
 have HT:=qh ht
 have HS:=qh hs
 clear hG hf ht hs
 have hlt:=HS.out.letter
 have hconv:∀ W:World,(convert 176 9 (.slice (some ⟨W.heap.size,0,none⟩) 1 1)).run Tryz.prog (W.alloc (.cells #[.int .u8 (c.letter:Int)] 5))=.ok (.string ⟨#[UInt8.ofNat c.letter]⟩) (W.alloc (.cells #[.int .u8 (c.letter:Int)] 5)):=fun W =>
  run_convert_bytes_back _ 176 9 5 ⟨W.heap.size,0,none⟩ 1 [UInt8.ofNat c.letter] Tryz.underlying176 Tryz.underlying5 Tryz.underlying9 (fun j hj=>by
   obtain rfl:j=0:=by simp at hj;exact hj
   exact cell_one_new W _ 5 0 _ (by simp [u8 _ hlt]))
 go_enter Tryz.func100,Tryz.ntmps100
 go_upto_region 1 with fail
 refine wp_letter (fun w1=>Blk w1 w.heap.size 47 [.int .u8 (c.letter:Int),.int .i64 c.mod,.bool c.nt,.slice FA c.fr.length fc,.slice TA c.to.length tc]∧Below w.heap.size w w1) ⟨Blk.made _ 47 _ _ _ rfl rfl,(Below.refl _ _).alloc ql _⟩ ?_
 rintro w1 ⟨b0,hb⟩
 have B0:=qh b0
 have HB:=qh hb
 obtain ⟨k0,k1,k2,k3,k4⟩:=b0.c5
 have hz:=b0.lt
 clear b0 hb
 have hc1:=hconv w1
 clear hconv
 go_upto_if 14 with fail
 clear k0 k1 k2 k3 k4 hc1
 have b1:=B0.out.alloc (.cells #[.int .u8 (c.letter:Int)] 5)
 have hb1:=HB.out.alloc HB.out.size (.cells #[.int .u8 (c.letter:Int)] 5)
 generalize w1.alloc (.cells #[.int .u8 (c.letter:Int)] 5)=w2 at *
 have B1:=qh b1
 have HB1:=qh hb1
 obtain ⟨-,k1⟩:=b1.c2
 clear b1 hb1 B0 HB hz
 have hil:=itoa_len HS.out.mod
 go_cut [3] (fun s3 wx=>s3=.string ⟨([UInt8.ofNat c.letter] ++ (if c.mod=0 then [] else [32,37,32] ++ Lib.itoa c.mod)).toArray⟩∧Below w2.heap.size w2 wx)
 case first =>
  by_cases hm:c.mod=0
  ·have hmI:(c.mod != 0)=false:=by simp [hm]
   have HM:=qh hm
   clear hm
   go_wp2_with fail
   go_meet
   exact ⟨by rw [if_pos HM.out];rfl,Below.refl _ _⟩
  ·have HM:=qh hm
   have hmI:(c.mod != 0)=true:=by simp [hm]
   clear hm
   go_wp2_with fail
   refine (str_itoa w2 c.mod (HG.out.below HB1.out ql) HS.out.mod.1 HS.out.mod.2).mono ?_
   rintro e w3 ⟨rfl,hb3⟩
   dsimp only
   go_wp2_with fail
   go_meet
   exact ⟨by rw [if_neg HM.out];exact congrArg Value.string (ByteArray.ext (by simp)),hb3⟩
 case rest =>
  obtain ⟨rfl,hbc⟩:=hcut
  have B2:=qh (B1.out.below hbc B1.out.lt)
  have HB2:=qh (HB1.out.trans (hbc.mono HB1.out.size))
  obtain ⟨-,-,k2⟩:=B2.out.c3
  obtain ⟨pre,hpre⟩:∃ pre,[UInt8.ofNat c.letter] ++ (if c.mod=0 then [] else [32,37,32] ++ Lib.itoa c.mod)=pre:=⟨_,rfl⟩
  have hpl:pre.length≤24:=by
   rw [← hpre]
   split <;> simp <;> omega
  rw [hpre]
  have HPRE:=qh hpre
  clear hbc B1 HB1 k1 hpre
  go_step
  go_upto_if 22 with fail
  go_cut [3] (fun s3 wx=>s3=.string ⟨(pre ++ (if c.nt then [32,33,61] else [32,61])).toArray⟩∧Below wc.heap.size wc wx)
  case first =>
   go_wp2_with fail
   all_goals
    go_meet
    refine ⟨?_,Below.refl _ _⟩
    first
     | (rw [if_pos (by assumption)];exact congrArg Value.string (ByteArray.ext (by simp)))
     | (rw [if_neg (by simp_all)];exact congrArg Value.string (ByteArray.ext (by simp)))
  case rest =>
   obtain ⟨rfl,hbc⟩:=hcut
   have B3:=qh (B2.out.below hbc B2.out.lt)
   have HB3:=qh (HB2.out.trans (hbc.mono HB2.out.size))
   rename World=>wd
   obtain ⟨hd,hhd⟩:∃ hd,pre ++ (if c.nt then [32,33,61] else [32,61])=hd:=⟨_,rfl⟩
   rw [hhd]
   have HHD:=qh hhd
   obtain ⟨-,-,-,k3,k4⟩:=B3.out.c5
   have hz:=B3.out.lt
   have hdl:hd.length≤27:=by rw [← hhd];split <;> simp <;> omega
   clear hhd k2 hbc B2 HB2
   go_step
   go_upto_block 0 with fail
   go_cut [4] (fun s4 wx=>OwnS wx wd.heap.size s4 (items c.fr c.to)∧Below wd.heap.size wd wx)
   case first =>
    have hnf:=HS.out.nf
    have hnt:=HS.out.nt
    have hnfI:(c.fr.length:Int)≤1000:=by omega
    have hntI:(c.to.length:Int)≤1000:=by omega
    go_wp2_with fail
    go_loopw [4,30] (WW wd c) (fun _ i _=>c.fr.length - (intOf i).toNat)
    case atStart=>exact ⟨0,Nat.zero_le _,Nat.zero_le _,rfl,World.ownsRow_nil _ _ _ _,Below.refl _ _⟩
    case round =>
     obtain ⟨k,hkf,hkt,rfl,hO,hb⟩:=hrel
     have B4:=qh (B3.out.below hb B3.out.lt)
     have HB4:=qh (HB3.out.trans (hb.mono HB3.out.size))
     have HBD:=qh hb
     have HO:=qh hO
     obtain ⟨-,-,-,j3,j4⟩:=B4.out.c5
     have hz4:=B4.out.lt
     clear hb hO k3 k4
     by_cases hlt:k<c.fr.length
     ·obtain ⟨b,o,hFA,hfc⟩:=(HF.out.below HB4.out ql).at (by omega)
      subst hFA
      obtain ⟨x,hx⟩:∃ x,c.fr[k]?=some x:=⟨c.fr[k],List.getElem?_eq_getElem hlt⟩
      have cx:=hfc k x hx
      have hxr:=HS.out.fr x (List.mem_of_getElem? hx)
      have HX:=qh hx
      have hkI:(k:Int)<(c.fr.length:Int):=by omega
      have hk0:(0:Int)≤(k:Int):=by omega
      clear hfc hx
      by_cases hlt2:k<c.to.length
      ·obtain ⟨b2,o2,hTA,htc⟩:=(HT.out.below HB4.out ql).at (by omega)
       subst hTA
       obtain ⟨y,hy⟩:∃ y,c.to[k]?=some y:=⟨c.to[k],List.getElem?_eq_getElem hlt2⟩
       have cy:=htc k y hy
       have hyr:=HS.out.tl y (List.mem_of_getElem? hy)
       have hit:=items_at c.fr c.to k x y HX.out hy
       have HIT:=qh hit
       have hkT:(k:Int)<(c.to.length:Int):=by omega
       have CY:=qh cy
       clear htc hy hit cy
       go_wp2_with fail
       refine (str_itoa wr x (HG.out.below HB4.out ql) hxr.1 hxr.2).mono ?_
       rintro e w5 ⟨rfl,hb5⟩
       have hxl:=itoa_len hxr
       have hyl:=itoa_len hyr
       have O5:=qh (own_kept_below HO.out hb5)
       have BD5:=qh (HBD.out.trans (hb5.mono HBD.out.size))
       have B5:=qh (B4.out.below hb5 B4.out.lt)
       have HB5:=qh (HB4.out.trans (hb5.mono HB4.out.size))
       have cy5:=(hb5.cell (World.block_lt_of_cell? wr _ CY.out)).trans CY.out
       obtain ⟨-,-,-,-,m4⟩:=B5.out.c5
       have CY5:=qh cy5
       clear hb5 cx j3 j4
       obtain ⟨L,hLd⟩:∃ L,(items c.fr c.to).take k=L:=⟨_,rfl⟩
       have hll:L.length≤1000:=by rw [← hLd,List.length_take];omega
       rw [hLd] at O5
       have HLD:=qh hLd
       clear hLd
       by_cases hxy:y=x
       ·have hxyI:(y != x)=false:=by simp [hxy]
        have HXY:=qh hxy
        clear hxy
        dsimp only
        have hmx:=maxLen_ge
        have hkw:k≤1000:=by omega
        go_wp2_with (at_builtin;refine wpList_append_lies _ (by rfl) (.tmp 58) (.tmp 60) 54 (by rfl) wd.heap.size 9 i9 (.string ByteArray.empty) 1 16 Tryz.underlying54 hi9 hz90 hz91 hz92 rfl (by decide) u4 L.length (strs L) (by rfl) (World.ownsRow.alloc O5.out _) ⟨w5.heap.size,0,none⟩ 1 1 [.string (⟨(Lib.itoa x).toArray⟩)] (by rfl) rfl (cell_one_new _ _ _) (by simp [Value.oneCell']) (by omega) (by omega) (by omega) (by have:=BD5.out.size;simp;omega) (w5.heap.size+1) (by simp) ?_;intro g1 cap1 w7 hown hgrow hat hlt7;have HO7:=qh hown;have HG7:=qh hgrow;clear hown hgrow hat)
        go_roundw
        case rel =>
         refine ⟨k+1,by omega,by omega,by go_num,?_,below_grown (BD5.out.alloc BD5.out.size _) HG7.out (by have:=BD5.out.size;simp;omega) (fun j hj=>(World.ownsRow.lt O5.out j hj).1)⟩
         have e:(items c.fr c.to).take (k+1)=L ++ [itemW x y]:=by rw [List.take_add_one,HIT.out,HLD.out];rfl
         have e2:(⟨(Lib.itoa x).toArray⟩)=(⟨(itemW x y).toArray⟩:ByteArray):=by
          unfold itemW
          rw [if_pos HXY.out]
         rw [e]
         show World.ownsRow _ _ 9 1 _ (L ++ [itemW x y]).length (strs (L ++ [itemW x y]))
         rw [strs_app,List.length_append]
         have:=HO7.out
         rw [e2] at this
         exact this
        case measure=>simp [intOf];omega
       ·have hxyI:(y != x)=true:=by simp [hxy]
        have HXY:=qh hxy
        clear hxy
        dsimp only
        go_wp2_with fail
        refine (str_itoa w5 y (HG.out.below HB5.out ql) hyr.1 hyr.2).mono ?_
        rintro e w6 ⟨rfl,hb6⟩
        have O6:=qh (own_kept_below O5.out hb6)
        have BD6:=qh (BD5.out.trans (hb6.mono BD5.out.size))
        clear hb6 cy5 m4
        dsimp only
        have hmx:=maxLen_ge
        have hkw:k≤1000:=by omega
        go_wp2_with (at_builtin;refine wpList_append_lies _ (by rfl) (.tmp 58) (.tmp 60) 54 (by rfl) wd.heap.size 9 i9 (.string ByteArray.empty) 1 16 Tryz.underlying54 hi9 hz90 hz91 hz92 rfl (by decide) u4 L.length (strs L) (by rfl) (World.ownsRow.alloc O6.out _) ⟨w6.heap.size,0,none⟩ 1 1 [.string (⟨(Lib.itoa x).toArray⟩ ++ (⟨#[46,46]⟩ ++ ⟨(Lib.itoa y).toArray⟩))] (by rfl) rfl (cell_one_new _ _ _) (by simp [Value.oneCell']) (by omega) (by omega) (by omega) (by have:=BD6.out.size;simp;omega) (w6.heap.size+1) (by simp) ?_;intro g1 cap1 w7 hown hgrow hat hlt7;have HO7:=qh hown;have HG7:=qh hgrow;clear hown hgrow hat)
        go_roundw
        case rel =>
         refine ⟨k+1,by omega,by omega,by go_num,?_,below_grown (BD6.out.alloc BD6.out.size _) HG7.out (by have:=BD6.out.size;simp;omega) (fun j hj=>(World.ownsRow.lt O6.out j hj).1)⟩
         have e:(items c.fr c.to).take (k+1)=L ++ [itemW x y]:=by rw [List.take_add_one,HIT.out,HLD.out];rfl
         have e2:(⟨(Lib.itoa x).toArray⟩ ++ (⟨#[46,46]⟩ ++ ⟨(Lib.itoa y).toArray⟩))=(⟨(itemW x y).toArray⟩:ByteArray):=by
          unfold itemW
          rw [if_neg HXY.out];exact ByteArray.ext (by simp)
         rw [e]
         show World.ownsRow _ _ 9 1 _ (L ++ [itemW x y]).length (strs (L ++ [itemW x y]))
         rw [strs_app,List.length_append]
         have:=HO7.out
         rw [e2] at this
         exact this
        case measure=>simp [intOf];omega
      ·have hk2:¬ (k:Int)<(c.to.length:Int):=by omega
       have hk3:(c.to.length:Int)≤(k:Int):=by omega
       have hal:(items c.fr c.to).take k=items c.fr c.to:=List.take_of_length_le (by rw [items_len];omega)
       have HAL:=qh hal
       clear hal
       go_wp2_with fail
       refine (str_itoa wr x (HG.out.below HB4.out ql) hxr.1 hxr.2).mono ?_
       rintro e w5 ⟨rfl,hb5⟩
       have O5:=qh (own_kept_below HO.out hb5)
       have BD5:=qh (HBD.out.trans (hb5.mono HBD.out.size))
       have B5:=qh (B4.out.below hb5 B4.out.lt)
       obtain ⟨-,-,-,-,m4⟩:=B5.out.c5
       clear hb5 cx j3 j4
       dsimp only
       go_wp2_with fail
       go_meet
       exact ⟨HAL.out ▸ O5.out,BD5.out⟩
     ·have hal:(items c.fr c.to).take k=items c.fr c.to:=List.take_of_length_le (by rw [items_len];omega)
      have HAL:=qh hal
      have hkI:¬ (k:Int)<(c.fr.length:Int):=by omega
      clear hal
      go_wp2_with fail
      go_meet
      exact ⟨HAL.out ▸ HO.out,HBD.out⟩
   case rest =>
    obtain ⟨hO,hbc⟩:=hcut
    obtain ⟨sA,sn,sc,rfl,hst⟩:=OwnS.strs hO
    have HST:=qh hst
    have HBE:=qh (HB3.out.trans (hbc.mono HB3.out.size))
    have hil2:(items c.fr c.to).length≤1000:=by rw [items_len];have:=HS.out.nf;omega
    have hjl:=join_le [44] 1000 42 (items c.fr c.to) (items_small _ _ HS.out.fr HS.out.tl) hil2
    have HIL:=qh hil2
    have HJL:=qh hjl
    clear hO hbc hst k3 k4 hil2 hjl
    go_step
    go_wp2_with fail
    refine (str_join wc sA sn sc (items c.fr c.to) ⟨#[44]⟩ HST.out (by have:=HIL.out;omega) (by have:=HJL.out;simp at this ⊢;omega)).mono ?_
    rintro e w9 ⟨rfl,hb9⟩
    have hjl2:(Lib.join (items c.fr c.to) [44]).length≤43000:=by have:=HJL.out;simpa using this
    have HB9:=qh (HBE.out.trans (hb9.mono HBE.out.size))
    clear hb9
    dsimp only
    go_wp2_with fail
    go_ret
    refine ⟨?_,HB9.out⟩
    have e:writeC c=hd ++ [32] ++ Lib.join (items c.fr c.to) [44]:=by
     rw [← HHD.out,← HPRE.out];rfl
    rw [e]
    exact congrArg (fun x=>Ending.returned (Value.string x)) (ByteArray.ext (by simp))
def CondsIs (w:World) (A:Option Addr) (n c:Nat) (l:List Cnd):Prop :=
 ∃ es:List E3,es.map (·.1)=l∧SlC w (.slice A n c) 5 es.length (cellsC es)∧∀ e ∈ es,IntsV w e.2.1 e.1.fr∧IntsV w e.2.2 e.1.to
theorem CondsIs.below {w w':World} {A:Option Addr} {n c B:Nat} {l:List Cnd} (h:CondsIs w A n c l) (hb:Below B w w') (hB:w.heap.size≤B):CondsIs w' A n c l:=by
 obtain ⟨es,h1,h2,h3⟩:=h
 exact ⟨es,h1,h2.below hb hB,fun e he=>⟨(h3 e he).1.below hb hB,(h3 e he).2.below hb hB⟩⟩
theorem CondsIs.len {w:World} {A:Option Addr} {n c:Nat} {l:List Cnd} (h:CondsIs w A n c l):n=l.length:=by
 obtain ⟨es,rfl,⟨A',c',h1,-⟩,-⟩:=h
 simpa using (Value.slice.inj h1).2.1
theorem CondsIs.at {w:World} {A:Option Addr} {n c:Nat} {l:List Cnd} (h:CondsIs w A n c l) (h0:0<l.length):∃ b o,A=some ⟨b,o,none⟩∧∀ (j:Nat) (x:Cnd),l[j]?=some x→∃ FA fn fc TA tn tc,IntsAre w FA fn fc x.fr∧IntsAre w TA tn tc x.to ∧
  w.cell? ⟨b,o+j * 5,none⟩=some (.int .u8 (x.letter:Int))∧w.cell? ⟨b,o+j * 5+1,none⟩=some (.int .i64 x.mod)∧w.cell? ⟨b,o+j * 5+2,none⟩=some (.bool x.nt)∧w.cell? ⟨b,o+j * 5+3,none⟩=some (.slice FA fn fc)∧w.cell? ⟨b,o+j * 5+4,none⟩=some (.slice TA tn tc):=by
 obtain ⟨es,rfl,⟨A',c',h1,h2,h3,h4⟩,h5⟩:=h
 obtain ⟨b,o,h6,h7⟩:=h4 (by rw [cellsC_len];simp at h0;omega)
 obtain ⟨rfl,-,-⟩:=Value.slice.inj h1
 refine ⟨b,o,h6,fun j x hx=>?_⟩
 rw [List.getElem?_map] at hx
 obtain ⟨e,he,rfl⟩:=Option.map_eq_some_iff.1 hx
 obtain ⟨⟨FA,fn,fc,e1,hF⟩,⟨TA,tn,tc,e2,hT⟩⟩:=h5 e (List.mem_of_getElem? he)
 have key:∀ i u,i<5→(five e)[i]?=some u→w.cell? ⟨b,o+j * 5+i,none⟩=some u:=fun i u hi hu=>by
  rw [Nat.add_assoc];exact h7 _ _ (by rw [cellsC_at es j i e he hi];exact hu)
 exact ⟨FA,fn,fc,TA,tn,tc,hF,hT,key 0 _ (by omega) rfl,key 1 _ (by omega) rfl,key 2 _ (by omega) rfl,key 3 _ (by omega) (by simp [five,e1]),key 4 _ (by omega) (by simp [five,e2])⟩
def RuleIs (w:World) (A:Option Addr) (n c:Nat) (r:Rl):Prop :=
 ∃ xs:List Value,SlC w (.slice A n c) 1 r.length xs∧F2 (fun x l=>∃ A n c,x=.slice A n c∧CondsIs w A n c l) xs r
theorem RuleIs.below {w w':World} {A:Option Addr} {n c B:Nat} {r:Rl} (h:RuleIs w A n c r) (hb:Below B w w') (hB:w.heap.size≤B):RuleIs w' A n c r:=by
 obtain ⟨xs,h1,h2⟩:=h
 exact ⟨xs,h1.below hb hB,h2.mono fun x l ⟨A,n,c,e,k⟩=>⟨A,n,c,e,k.below hb hB⟩⟩
theorem RuleIs.len {w:World} {A:Option Addr} {n c:Nat} {r:Rl} (h:RuleIs w A n c r):n=r.length:=by
 obtain ⟨xs,⟨A',c',h1,-⟩,-⟩:=h
 exact (Value.slice.inj h1).2.1
theorem RuleIs.at {w:World} {A:Option Addr} {n c:Nat} {r:Rl} (h:RuleIs w A n c r) (h0:0<r.length):∃ b o,A=some ⟨b,o,none⟩∧∀ (j:Nat) (l:List Cnd),r[j]?=some l→∃ A n c,w.cell? ⟨b,o+j,none⟩=some (.slice A n c)∧CondsIs w A n c l:=by
 obtain ⟨xs,⟨A',c',h1,h2,h3,h4⟩,h5⟩:=h
 obtain ⟨b,o,h6,h7⟩:=h4 (by omega)
 obtain ⟨rfl,-,-⟩:=Value.slice.inj h1
 refine ⟨b,o,h6,fun j l hl=>?_⟩
 obtain ⟨x,hx,A,n,c,rfl,hc⟩:=h5.at j l hl
 exact ⟨A,n,c,h7 j _ hx,hc⟩
theorem RuleAre.is {w:World} {A:Option Addr} {n c:Nat} {r:Rl} (h:RuleAre w A n c r):RuleIs w A n c r:=by
 obtain ⟨xs,h1,h2⟩:=h
 refine ⟨xs,h1,h2.mono fun x l ⟨lo,k⟩=>?_⟩
 obtain ⟨A,n,c,rfl⟩:=k.form
 obtain ⟨es,k1,k2,k3,k4⟩:=k
 exact ⟨A,n,c,rfl,es,k1,k2,fun e he=>⟨(k3 e he).1.1,(k3 e he).2.1.1⟩⟩
theorem RuleAreB.is {lo:Nat} {w:World} {A:Option Addr} {n c:Nat} {r:Rl} (h:RuleAreB lo w A n c r):RuleIs w A n c r:=h.are.is
structure SmallR (r:Rl):Prop where
 len:r.length≤1000
 rows:∀ l ∈ r,l.length≤1000∧∀ c ∈ l,SmallC c
theorem writeL_len {l:List Cnd} (h:l.length≤1000∧∀ c ∈ l,SmallC c):(writeL l).length≤60000000:=by
 have:=join_le [32,97,110,100,32] 1000 50000 (l.map writeC) (fun w hw=>by obtain ⟨c,hc,rfl⟩:=List.mem_map.1 hw;exact writeC_len (h.2 c hc)) (by simpa using h.1)
 unfold writeL
 simp at this ⊢;omega
theorem writeR_len {r:Rl} (h:SmallR r):(writeR r).length≤70000000000:=by
 have:=join_le [32,111,114,32] 1000 60000000 (r.map writeL) (fun w hw=>by obtain ⟨l,hl,rfl⟩:=List.mem_map.1 hw;exact writeL_len (h.rows l hl)) (by simpa using h.len)
 unfold writeR
 simp at this ⊢;omega
theorem ownS_push {w1:World} {B g cap:Nat} {ws:List Bs} {t:Bs} (ho:w1.ownsRow B 9 1 (.slice (some ⟨g,0,none⟩) (ws.length+1) cap) (ws.length+1) (strs ws ++ [.string ⟨t.toArray⟩])):OwnS w1 B (.slice (some ⟨g,0,none⟩) (ws.length+1) cap) (ws ++ [t]):=by
 show World.ownsRow _ _ 9 1 _ (ws ++ [t]).length (strs (ws ++ [t]))
 rw [strs_app,List.length_append];exact ho
def InR (W2:World) (l:List Cnd) (v i:Value) (wr:World):Prop :=
 ∃ (j:Nat) (L:List Bs),j≤l.length∧i=.int .i64 j∧L=(l.take j).map writeC∧L.length=j∧OwnS wr W2.heap.size v L∧Below W2.heap.size W2 wr
def OutR (W:World) (r:Rl) (v i:Value) (wr:World):Prop :=
 ∃ (k:Nat) (L:List Bs),k≤r.length∧i=.int .i64 k∧L=(r.take k).map writeL∧L.length=k∧OwnS wr W.heap.size v L∧Below W.heap.size W wr
theorem rule_write (w:World) (A:Option Addr) (n c:Nat) (r:Rl) (hG:GW w) (h:RuleIs w A n c r) (hs:SmallR r) :
  Calls Tryz.prog 58 #[.agg #[.slice A n c]] w fun e w'=>e=.returned (.string ⟨(writeR r).toArray⟩)∧Below w.heap.size w w':=by
 obtain rfl:n=r.length:=h.len
 obtain ⟨i9,hi9,hz90,hz91,hz92⟩:=info_parts Tryz_info9
 have HG:=qh hG
 have HX:=qh h
 have HS:=qh hs
 have hrl:=hs.len
 have hrI:(r.length:Int)≤1000:=by omega
 clear hG h hs
 go_enter Tryz.func58,Tryz.ntmps58
 go_upto_region 1 with fail
 refine wp_letter (fun w1=>Blk w1 w.heap.size 30 [.slice A r.length c]∧Below w.heap.size w w1) ⟨Blk.made _ 30 _ _ _ rfl rfl,(Below.refl _ _).alloc ql _⟩ ?_
 rintro w1 ⟨b0,hb⟩
 have HB:=qh hb
 have HX1:=qh (HX.out.below hb ql)
 have k0:=b0.c1
 have hz1:=b0.lt
 clear b0 hb
 go_wp2_with fail
 go_loopw [3,12] (OutR w1 r) (fun _ i _=>r.length - (intOf i).toNat)
 case atStart=>exact ⟨0,[],Nat.zero_le _,rfl,rfl,rfl,World.ownsRow_nil _ _ _ _,Below.refl _ _⟩
 case round =>
  obtain ⟨k,L,hk,rfl,hL,hLk,hO,hb⟩:=hrel
  subst hLk
  have HL:=qh hL
  have HO:=qh hO
  have HBR:=qh hb
  have HBW:=qh (HB.out.trans (hb.mono HB.out.size))
  clear hL hO hb
  by_cases hlt:L.length<r.length
  ·obtain ⟨b,o,hA,hc⟩:=(HX1.out.below HBR.out ql).at (by omega)
   subst hA
   obtain ⟨l,hl⟩:∃ l,r[L.length]?=some l:=⟨r[L.length],List.getElem?_eq_getElem hlt⟩
   obtain ⟨lA,ln,lc,hck,hcs⟩:=hc L.length l hl
   have hsl:=HS.out.rows l (List.mem_of_getElem? hl)
   have HLL:=qh hl
   have HCS:=qh hcs
   have HSL:=qh hsl
   obtain rfl:ln=l.length:=hcs.len
   have hkI:(L.length:Int)<(r.length:Int):=by omega
   have hk0:(0:Int)≤(L.length:Int):=by omega
   have hll:l.length≤1000:=hsl.1
   have hlI:(l.length:Int)≤1000:=by omega
   clear hc hl hcs hsl
   obtain ⟨wo,rfl⟩:∃ wo:World,wo=wr:=⟨_,rfl⟩
   go_wp2_with fail
   go_loopw [6,18] (InR wo l) (fun _ i _=>l.length - (intOf i).toNat)
   case atStart=>exact ⟨0,[],Nat.zero_le _,rfl,rfl,rfl,World.ownsRow_nil _ _ _ _,Below.refl _ _⟩
   case round =>
    obtain ⟨j,L2,hj,rfl,hL2,hLj,hO2,hb2⟩:=hrel
    subst hLj
    have HL2:=qh hL2
    have HO2:=qh hO2
    have HB2:=qh hb2
    clear hL2 hO2 hb2
    by_cases hjl:L2.length<l.length
    ·obtain ⟨b2,o2,hA2,hc2⟩:=(HCS.out.below HB2.out ql).at (by omega)
     subst hA2
     obtain ⟨x,hx⟩:∃ x,l[L2.length]?=some x:=⟨l[L2.length],List.getElem?_eq_getElem hjl⟩
     obtain ⟨FA,fn,fc,TA,tn,tc,hF,hT,c0,c1,c2,c3,c4⟩:=hc2 L2.length x hx
     have hsx:=HSL.out.2 x (List.mem_of_getElem? hx)
     have HXX:=qh hx
     have HF:=qh hF
     have HT:=qh hT
     have HSX:=qh hsx
     have hjI:(L2.length:Int)<(l.length:Int):=by omega
     have hj0:(0:Int)≤(L2.length:Int):=by omega
     clear hc2 hx hF hT hsx
     go_wp2_with fail
     have hba:=(Below.refl wr.heap.size wr).alloc ql (.cells #[.int .u8 (x.letter:Int),.int .i64 x.mod,.bool x.nt,.slice FA fn fc,.slice TA tn tc] 47)
     refine (cond_write _ x FA TA fn fc tn tc ((HG.out.below (HBW.out.trans (HB2.out.mono HBW.out.size)) ql).below hba ql) (HF.out.below hba ql) (HT.out.below hba ql) HSX.out).mono ?_
     rintro e w5 ⟨rfl,hb5⟩
     have hb6:=hba.trans (hb5.mono hba.size)
     have O5:=qh (own_kept_below HO2.out hb6)
     have HBZ:=qh (HB2.out.trans (hb6.mono HB2.out.size))
     have hmx:=maxLen_ge
     clear hba hb5 hb6 c0 c1 c2 c3 c4
     dsimp only
     go_wp2_with (at_builtin;refine wpList_append_lies _ (by rfl) (.tmp 22) (.tmp 25) 54 (by rfl) wo.heap.size 9 i9 (.string ByteArray.empty) 1 16 Tryz.underlying54 hi9 hz90 hz91 hz92 rfl (by decide) _ L2.length (strs L2) (by rfl) (World.ownsRow.alloc O5.out _) ⟨w5.heap.size,0,none⟩ 1 1 [.string ⟨(writeC x).toArray⟩] (by rfl) rfl (cell_one_new _ _ _) (by simp [Value.oneCell']) (by omega) (by omega) (by omega) (by have:=HBZ.out.size;simp;omega) (w5.heap.size+1) (by simp) ?_;intro g1 cap1 w7 hown hgrow hat hlt7;have HO7:=qh hown;have HG7:=qh hgrow;clear hown hgrow hat)
     go_roundw
     case rel =>
      refine ⟨L2.length+1,L2 ++ [writeC x],by omega,by go_num,?_,by simp,ownS_push HO7.out,below_grown (HBZ.out.alloc HBZ.out.size _) HG7.out (by have:=HBZ.out.size;simp;omega) (fun j hj=>(World.ownsRow.lt O5.out j hj).1)⟩
      rw [List.take_add_one,HXX.out,List.map_append,← HL2.out];rfl
     case measure=>simp [intOf];omega
    ·have hal:L2=l.map writeC:=by rw [HL2.out,List.take_of_length_le (by omega)]
     obtain ⟨sA,sn,sc,rfl,hst⟩:=OwnS.strs HO2.out
     have HST:=qh hst
     have hjI:¬ (L2.length:Int)<(l.length:Int):=by omega
     have hjl2:=join_le [32,97,110,100,32] 1000 50000 (l.map writeC) (fun w hw=>by obtain ⟨c,hc,rfl⟩:=List.mem_map.1 hw;exact writeC_len (HSL.out.2 c hc)) (by simpa using hll)
     have HJ:=qh hjl2
     have HAL:=qh hal
     have hl2l:L2.length≤1000:=by omega
     clear hst hjl2 hal
     go_wp2_with fail
     refine (str_join wr sA sn sc L2 ⟨#[32,97,110,100,32]⟩ HST.out (by omega) (by rw [HAL.out];have:=HJ.out;simp at this ⊢;omega)).mono ?_
     rintro e w5 ⟨rfl,hb5⟩
     have hww:(Lib.join L2 (⟨#[32,97,110,100,32]⟩:ByteArray).data.toList)=writeL l:=by rw [HAL.out];rfl
     rw [hww]
     have hb6:=HB2.out.trans (hb5.mono HB2.out.size)
     have O5:=qh (own_kept_below HO.out hb6)
     have HBZ:=qh (HBR.out.trans (hb6.mono HBR.out.size))
     have hmx:=maxLen_ge
     have hLl:L.length≤1000:=by omega
     clear hb5 hb6 hww
     dsimp only
     go_wp2_with (at_builtin;refine wpList_append_lies _ (by rfl) (.tmp 28) (.tmp 31) 54 (by rfl) w1.heap.size 9 i9 (.string ByteArray.empty) 1 16 Tryz.underlying54 hi9 hz90 hz91 hz92 rfl (by decide) _ L.length (strs L) (by rfl) (World.ownsRow.alloc O5.out _) ⟨w5.heap.size,0,none⟩ 1 1 [.string ⟨(writeL l).toArray⟩] (by rfl) rfl (cell_one_new _ _ _) (by simp [Value.oneCell']) (by omega) (by omega) (by omega) (by have:=HBZ.out.size;simp;omega) (w5.heap.size+1) (by simp) ?_;intro g1 cap1 w7 hown hgrow hat hlt7;have HO7:=qh hown;have HG7:=qh hgrow;clear hown hgrow hat)
     go_roundw
     case rel =>
      refine ⟨L.length+1,L ++ [writeL l],by omega,by go_num,?_,by simp,ownS_push HO7.out,below_grown (HBZ.out.alloc HBZ.out.size _) HG7.out (by have:=HBZ.out.size;simp;omega) (fun j hj=>(World.ownsRow.lt O5.out j hj).1)⟩
      rw [List.take_add_one,HLL.out,List.map_append,← HL.out];rfl
     case measure=>simp [intOf];omega
  ·have hal:L=r.map writeL:=by rw [HL.out,List.take_of_length_le (by omega)]
   obtain ⟨sA,sn,sc,rfl,hst⟩:=OwnS.strs HO.out
   have HST:=qh hst
   have hkI:¬ (L.length:Int)<(r.length:Int):=by omega
   have hjl2:=join_le [32,111,114,32] 1000 60000000 (r.map writeL) (fun w hw=>by obtain ⟨l,hl,rfl⟩:=List.mem_map.1 hw;exact writeL_len (HS.out.rows l hl)) (by simpa using hrl)
   have HJ:=qh hjl2
   have HAL:=qh hal
   have hl2l:L.length≤1000:=by omega
   clear hst hjl2 hal
   go_wp2_with fail
   refine (str_join wr sA sn sc L ⟨#[32,111,114,32]⟩ HST.out (by omega) (by rw [HAL.out];have:=HJ.out;simp at this ⊢;omega)).mono ?_
   rintro e w5 ⟨rfl,hb5⟩
   have hww:(Lib.join L (⟨#[32,111,114,32]⟩:ByteArray).data.toList)=writeR r:=by rw [HAL.out];rfl
   rw [hww]
   have HBZ:=qh (HBW.out.trans (hb5.mono HBW.out.size))
   clear hb5 hww
   dsimp only
   go_wp2_with fail
   go_ret
   exact ⟨rfl,HBZ.out⟩
end Go.Proofs.YtdgleeglndcjhaaGreatDoor
