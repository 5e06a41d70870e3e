import Derived.Test.YtdgleeglndcjhaaGreatDoorX07
import Derived.Deep.RegionHeld
import Derived.Deep.RegionHeld3
import Derived.Tactics2
import Derived.KernelRfl
set_option linter.unusedSimpArgs false
set_option linter.unusedVariables false
set_option maxHeartbeats 8000000
set_option maxRecDepth 100000
namespace Go.Proofs.YtdgleeglndcjhaaGreatDoor
open Go.RowKit
theorem IntsAre.len {w:World} {A:Option Addr} {n c:Nat} {l:List Int} (h:IntsAre w A n c l):n=l.length:=by
 obtain ⟨A',c',h1,-⟩:=h;exact (Value.slice.inj h1).2.1
theorem IntsAre.at {w:World} {A:Option Addr} {n c:Nat} {l:List Int} (h:IntsAre w A n c l) (h0:0<l.length):∃ b o,A=some ⟨b,o,none⟩∧∀ (j:Nat) (x:Int),l[j]?=some x→w.cell? ⟨b,o+j,none⟩=some (.int .i64 x):=by
 obtain ⟨A',c',h1,h2,h3,h4⟩:=h;obtain ⟨b,o,h5,h6⟩:=h4 (by simpa [ints] using h0);obtain ⟨rfl,-,-⟩:=Value.slice.inj h1;exact ⟨b,o,h5,fun j x hx=>h6 j _ (by simp [ints,hx])⟩
theorem ba_app (a b:Bs):(⟨a.toArray⟩:ByteArray) ++ ⟨b.toArray⟩=⟨(a ++ b).toArray⟩:=by
 apply ByteArray.ext
 simp
theorem OwnS.strs {w:World} {B:Nat} {x:Value} {ws:List Bs} (h:OwnS w B x ws):∃ A n c,x=.slice A n c∧StrsAre w A n c ws:=by
 have h1:=SlC.own h;obtain ⟨A,c,rfl,-⟩:=h1;exact ⟨A,_,c,rfl,SlC.own h⟩
def WW (W:World) (c:Cnd) (v i:Value) (wr:World):Prop :=
 ∃ k:Nat,k≤c.fr.length∧k≤c.to.length∧i=.int .i64 k∧OwnS wr W.heap.size v ((items c.fr c.to).take k)∧Below W.heap.size W wr
theorem cond_write (w:World) (c:Cnd) (FA TA:Option Addr) (fn fc tn tc:Nat) (hG:GW w) (hf:IntsAre w FA fn fc c.fr) (ht:IntsAre w TA tn tc c.to) (hs:SmallC c) :
  Calls Tryz.prog 100 #[.agg #[.int .u8 (c.letter:Int),.int .i64 c.mod,.bool c.nt,.slice FA fn fc,.slice TA tn tc]] w fun e w'=>e=.returned (.string ⟨(writeC c).toArray⟩)∧Below w.heap.size w w':=by
 obtain rfl:fn=c.fr.length:=hf.len;obtain rfl:tn=c.to.length:=ht.len;obtain ⟨i9,hi9,hz90,hz91,hz92⟩:=info_parts Tryz_info9;have HG:=qh hG;have HF:=qh hf;have HT:=qh ht;have HS:=qh hs;clear hG hf ht hs;have hlt:=HS.o.letter
 have hconv:∀ W:World,(convert 176 9 (.slice (some ⟨W.heap.size,0,none⟩) 1 1)).run Tryz.prog (W.alloc (.cells #[.int .u8 (c.letter:Int)] 5))=.ok (.string ⟨#[UInt8.ofNat c.letter]⟩) (W.alloc (.cells #[.int .u8 (c.letter:Int)] 5)):=fun W =>
  run_convert_bytes_back _ 176 9 5 ⟨W.heap.size,0,none⟩ 1 [UInt8.ofNat c.letter] Tryz.underlying176 Tryz.underlying5 Tryz.underlying9 (fun j hj=>by
   obtain rfl:j=0:=by simp at hj;exact hj
   exact cell_one_new W _ 5 0 _ (by simp [u8 _ hlt]))
 go_enter Tryz.func100,Tryz.ntmps100;go_upto_region 1 with fail;refine wp_letter (fun w1=>Blk w1 w.heap.size 47 [.int .u8 (c.letter:Int),.int .i64 c.mod,.bool c.nt,.slice FA c.fr.length fc,.slice TA c.to.length tc]∧Below w.heap.size w w1) ⟨Blk.made _ 47 _ _ _ rfl rfl,(Below.refl _ _).alloc ql _⟩ ?_;rintro w1 ⟨b0,hb⟩;have B0:=qh b0;have HB:=qh hb;obtain ⟨k0,k1,k2,k3,k4⟩:=b0.c5;have hz:=b0.lt;clear b0 hb;have hc1:=hconv w1;clear hconv;go_upto_if 14 with fail;clear k0 k1 k2 k3 k4 hc1;have b1:=B0.o.alloc (.cells #[.int .u8 (c.letter:Int)] 5);have hb1:=HB.o.alloc HB.o.size (.cells #[.int .u8 (c.letter:Int)] 5);generalize w1.alloc (.cells #[.int .u8 (c.letter:Int)] 5)=w2 at *
 have B1:=qh b1;have HB1:=qh hb1;obtain ⟨-,k1⟩:=b1.c2;clear b1 hb1 B0 HB hz;have hil:=itoa_len HS.o.mod;go_cut [3] (fun s3 wx=>s3=.string ⟨([UInt8.ofNat c.letter] ++ (if c.mod=0 then [] else [32,37,32] ++ Lib.itoa c.mod)).toArray⟩∧Below w2.heap.size w2 wx)
 case first =>
  by_cases hm:c.mod=0
  ·have hmI:(c.mod != 0)=false:=by simp [hm]
   have HM:=qh hm;clear hm;go_wp2_with fail;go_meet
   exact ⟨by rw [if_pos HM.o];rfl,Below.refl _ _⟩
  ·have HM:=qh hm;have hmI:(c.mod != 0)=true:=by simp [hm]
   clear hm;go_wp2_with fail;refine (str_itoa w2 c.mod (HG.o.below HB1.o ql) HS.o.mod.1 HS.o.mod.2).mono ?_;rintro e w3 ⟨rfl,hb3⟩;dsimp only;go_wp2_with fail;go_meet
   exact ⟨by rw [if_neg HM.o];exact congrArg Value.string (ByteArray.ext (by simp)),hb3⟩
 case rest =>
  obtain ⟨rfl,hbc⟩:=hcut;have B2:=qh (B1.o.below hbc B1.o.lt);have HB2:=qt HB1 hbc;obtain ⟨-,-,k2⟩:=B2.o.c3;obtain ⟨pre,hpre⟩:∃ pre,[UInt8.ofNat c.letter] ++ (if c.mod=0 then [] else [32,37,32] ++ Lib.itoa c.mod)=pre:=⟨_,rfl⟩
  have hpl:pre.length≤24:=by
   rw [← hpre];split <;> simp <;> omega
  rw [hpre];have HPRE:=qh hpre;clear hbc B1 HB1 k1 hpre;go_step;go_upto_if 22 with fail;go_cut [3] (fun s3 wx=>s3=.string ⟨(pre ++ (if c.nt then [32,33,61] else [32,61])).toArray⟩∧Below wc.heap.size wc wx)
  case first =>
   go_wp2_with fail
   all_goals
    go_meet
    refine ⟨?_,Below.refl _ _⟩
    first
     | (rw [if_pos (by assumption)];exact congrArg Value.string (ByteArray.ext (by simp)))
     | (rw [if_neg (by simp_all)];exact congrArg Value.string (ByteArray.ext (by simp)))
  case rest =>
   obtain ⟨rfl,hbc⟩:=hcut;have B3:=qh (B2.o.below hbc B2.o.lt);have HB3:=qt HB2 hbc
   rename World=>wd
   obtain ⟨hd,hhd⟩:∃ hd,pre ++ (if c.nt then [32,33,61] else [32,61])=hd:=⟨_,rfl⟩;rw [hhd];have HHD:=qh hhd;obtain ⟨-,-,-,k3,k4⟩:=B3.o.c5;have hz:=B3.o.lt;have hdl:hd.length≤27:=by rw [← hhd];split <;> simp <;> omega
   clear hhd k2 hbc B2 HB2;go_step
   go_upto_block 0 with fail
   go_cut [4] (fun s4 wx=>OwnS wx wd.heap.size s4 (items c.fr c.to)∧Below wd.heap.size wd wx)
   case first =>
    have hnf:=HS.o.nf;have hnt:=HS.o.nt;have hnfI:(c.fr.length:Int)≤1000:=by omega
    have hntI:(c.to.length:Int)≤1000:=by omega
    go_wp2_with fail;go_loopw [4,30] (WW wd c) (fun _ i _=>c.fr.length - (intOf i).toNat)
    case atStart=>exact ⟨0,Nat.zero_le _,Nat.zero_le _,rfl,World.ownsRow_nil _ _ _ _,Below.refl _ _⟩
    case round =>
     obtain ⟨k,hkf,hkt,rfl,hO,hb⟩:=hrel;have B4:=qh (B3.o.below hb B3.o.lt);have HB4:=qt HB3 hb;have HBD:=qh hb;have HO:=qh hO;obtain ⟨-,-,-,j3,j4⟩:=B4.o.c5;have hz4:=B4.o.lt;clear hb hO k3 k4;by_cases hlt:k<c.fr.length
     ·obtain ⟨b,o,hFA,hfc⟩:=(HF.o.below HB4.o ql).at (by omega);subst hFA;obtain ⟨x,hx⟩:∃ x,c.fr[k]?=some x:=⟨c.fr[k],List.getElem?_eq_getElem hlt⟩;have cx:=hfc k x hx;have hxr:=HS.o.fr x (List.mem_of_getElem? hx);have HX:=qh hx;have hkI:(k:Int)<(c.fr.length:Int):=by omega
      have hk0:(0:Int)≤(k:Int):=by omega
      clear hfc hx;by_cases hlt2:k<c.to.length
      ·obtain ⟨b2,o2,hTA,htc⟩:=(HT.o.below HB4.o ql).at (by omega);subst hTA;obtain ⟨y,hy⟩:∃ y,c.to[k]?=some y:=⟨c.to[k],List.getElem?_eq_getElem hlt2⟩;have cy:=htc k y hy;have hyr:=HS.o.tl y (List.mem_of_getElem? hy);have hit:=items_at c.fr c.to k x y HX.o hy;have HIT:=qh hit;have hkT:(k:Int)<(c.to.length:Int):=by omega
       have CY:=qh cy;clear htc hy hit cy;go_wp2_with fail;refine (str_itoa wr x (HG.o.below HB4.o ql) hxr.1 hxr.2).mono ?_;rintro e w5 ⟨rfl,hb5⟩;have hxl:=itoa_len hxr;have hyl:=itoa_len hyr;have O5:=qh (own_kept_below HO.o hb5);have BD5:=qt HBD hb5;have B5:=qh (B4.o.below hb5 B4.o.lt);have HB5:=qt HB4 hb5;have cy5:=(hb5.cell (World.block_lt_of_cell? wr _ CY.o)).trans CY.o;obtain ⟨-,-,-,-,m4⟩:=B5.o.c5;have CY5:=qh cy5;clear hb5 cx j3 j4;obtain ⟨L,hLd⟩:∃ L,(items c.fr c.to).take k=L:=⟨_,rfl⟩;have hll:L.length≤1000:=by rw [← hLd,List.length_take];omega
       rw [hLd] at O5;have HLD:=qh hLd;clear hLd;by_cases hxy:y=x
       ·have hxyI:(y != x)=false:=by simp [hxy]
        have HXY:=qh hxy;clear hxy;dsimp only;have hmx:=maxLen_ge;have hkw:k≤1000:=by omega
        go_wp2_with (at_builtin;refine wpList_append_lies _ (by rfl) (.tmp 58) (.tmp 60) 54 (by rfl) wd.heap.size 9 i9 (.string ByteArray.empty) 1 16 Tryz.underlying54 hi9 hz90 hz91 hz92 rfl (by decide) u4 L.length (strs L) (by rfl) (World.ownsRow.alloc O5.o _) ⟨w5.heap.size,0,none⟩ 1 1 [.string (⟨(Lib.itoa x).toArray⟩)] (by rfl) rfl (cell_one_new _ _ _) (by simp [Value.oneCell']) (by omega) (by omega) (by omega) (by have:=BD5.o.size;simp;omega) (w5.heap.size+1) (by simp) ?_;intro g1 cap1 w7 hown hgrow hat hlt7;have HO7:=qh hown;have HG7:=qh hgrow;clear hown hgrow hat)
        go_roundw
        case rel =>
         refine ⟨k+1,by omega,by omega,by go_num,?_,below_grown (BD5.o.alloc BD5.o.size _) HG7.o (by have:=BD5.o.size;simp;omega) (fun j hj=>(World.ownsRow.lt O5.o j hj).1)⟩;have e:(items c.fr c.to).take (k+1)=L ++ [itemW x y]:=by rw [List.take_add_one,HIT.o,HLD.o];rfl
         have e2:(⟨(Lib.itoa x).toArray⟩)=(⟨(itemW x y).toArray⟩:ByteArray):=by
          unfold itemW;rw [if_pos HXY.o]
         rw [e];show World.ownsRow _ _ 9 1 _ (L ++ [itemW x y]).length (strs (L ++ [itemW x y]));rw [strs_app,List.length_append];have:=HO7.o;rw [e2] at this;exact this
        case measure=>simp [intOf];omega
       ·have hxyI:(y != x)=true:=by simp [hxy]
        have HXY:=qh hxy;clear hxy;dsimp only;go_wp2_with fail;refine (str_itoa w5 y (HG.o.below HB5.o ql) hyr.1 hyr.2).mono ?_;rintro e w6 ⟨rfl,hb6⟩;have O6:=qh (own_kept_below O5.o hb6);have BD6:=qt BD5 hb6;clear hb6 cy5 m4;dsimp only;have hmx:=maxLen_ge;have hkw:k≤1000:=by omega
        go_wp2_with (at_builtin;refine wpList_append_lies _ (by rfl) (.tmp 58) (.tmp 60) 54 (by rfl) wd.heap.size 9 i9 (.string ByteArray.empty) 1 16 Tryz.underlying54 hi9 hz90 hz91 hz92 rfl (by decide) u4 L.length (strs L) (by rfl) (World.ownsRow.alloc O6.o _) ⟨w6.heap.size,0,none⟩ 1 1 [.string (⟨(Lib.itoa x).toArray⟩ ++ (⟨#[46,46]⟩ ++ ⟨(Lib.itoa y).toArray⟩))] (by rfl) rfl (cell_one_new _ _ _) (by simp [Value.oneCell']) (by omega) (by omega) (by omega) (by have:=BD6.o.size;simp;omega) (w6.heap.size+1) (by simp) ?_;intro g1 cap1 w7 hown hgrow hat hlt7;have HO7:=qh hown;have HG7:=qh hgrow;clear hown hgrow hat)
        go_roundw
        case rel =>
         refine ⟨k+1,by omega,by omega,by go_num,?_,below_grown (BD6.o.alloc BD6.o.size _) HG7.o (by have:=BD6.o.size;simp;omega) (fun j hj=>(World.ownsRow.lt O6.o j hj).1)⟩;have e:(items c.fr c.to).take (k+1)=L ++ [itemW x y]:=by rw [List.take_add_one,HIT.o,HLD.o];rfl
         have e2:(⟨(Lib.itoa x).toArray⟩ ++ (⟨#[46,46]⟩ ++ ⟨(Lib.itoa y).toArray⟩))=(⟨(itemW x y).toArray⟩:ByteArray):=by
          unfold itemW;rw [if_neg HXY.o];exact ByteArray.ext (by simp)
         rw [e];show World.ownsRow _ _ 9 1 _ (L ++ [itemW x y]).length (strs (L ++ [itemW x y]));rw [strs_app,List.length_append];have:=HO7.o;rw [e2] at this;exact this
        case measure=>simp [intOf];omega
      ·have hk2:¬ (k:Int)<(c.to.length:Int):=by omega
       have hk3:(c.to.length:Int)≤(k:Int):=by omega
       have hal:(items c.fr c.to).take k=items c.fr c.to:=List.take_of_length_le (by rw [items_len];omega);have HAL:=qh hal;clear hal;go_wp2_with fail;refine (str_itoa wr x (HG.o.below HB4.o ql) hxr.1 hxr.2).mono ?_;rintro e w5 ⟨rfl,hb5⟩;have O5:=qh (own_kept_below HO.o hb5);have BD5:=qt HBD hb5;have B5:=qh (B4.o.below hb5 B4.o.lt);obtain ⟨-,-,-,-,m4⟩:=B5.o.c5;clear hb5 cx j3 j4;dsimp only;go_wp2_with fail;go_meet
       exact ⟨HAL.o ▸ O5.o,BD5.o⟩
     ·have hal:(items c.fr c.to).take k=items c.fr c.to:=List.take_of_length_le (by rw [items_len];omega);have HAL:=qh hal;have hkI:¬ (k:Int)<(c.fr.length:Int):=by omega
      clear hal;go_wp2_with fail;go_meet
      exact ⟨HAL.o ▸ HO.o,HBD.o⟩
   case rest =>
    obtain ⟨hO,hbc⟩:=hcut;obtain ⟨sA,sn,sc,rfl,hst⟩:=OwnS.strs hO;have HST:=qh hst;have HBE:=qt HB3 hbc;have hil2:(items c.fr c.to).length≤1000:=by rw [items_len];have:=HS.o.nf;omega
    have hjl:=join_le [44] 1000 42 (items c.fr c.to) (items_small _ _ HS.o.fr HS.o.tl) hil2;have HIL:=qh hil2;have HJL:=qh hjl;clear hO hbc hst k3 k4 hil2 hjl;go_step;go_wp2_with fail;refine (str_join wc sA sn sc (items c.fr c.to) ⟨#[44]⟩ HST.o (by have:=HIL.o;omega) (by have:=HJL.o;simp at this ⊢;omega)).mono ?_;rintro e w9 ⟨rfl,hb9⟩;have hjl2:(Lib.join (items c.fr c.to) [44]).length≤43000:=by have:=HJL.o;simpa using this
    have HB9:=qt HBE hb9;clear hb9;dsimp only;go_wp2_with fail;go_ret
    refine ⟨?_,HB9.o⟩
    have e:writeC c=hd ++ [32] ++ Lib.join (items c.fr c.to) [44]:=by
     rw [← HHD.o,← HPRE.o];rfl
    rw [e];exact congrArg (fun x=>Ending.returned (Value.string x)) (ByteArray.ext (by simp))
def CondsIs (w:World) (A:Option Addr) (n c:Nat) (l:List Cnd):Prop :=
 ∃ es:List E3,es.map (·.1)=l∧SlC w (.slice A n c) 5 es.length (cellsC es)∧∀ e ∈ es,IntsV w e.2.1 e.1.fr∧IntsV w e.2.2 e.1.to
theorem CondsIs.below {w w':World} {A:Option Addr} {n c B:Nat} {l:List Cnd} (h:CondsIs w A n c l) (hb:Below B w w') (hB:w.heap.size≤B):CondsIs w' A n c l:=by
 obtain ⟨es,h1,h2,h3⟩:=h;exact ⟨es,h1,h2.below hb hB,fun e he=>⟨(h3 e he).1.below hb hB,(h3 e he).2.below hb hB⟩⟩
theorem CondsIs.len {w:World} {A:Option Addr} {n c:Nat} {l:List Cnd} (h:CondsIs w A n c l):n=l.length:=by
 obtain ⟨es,rfl,⟨A',c',h1,-⟩,-⟩:=h;simpa using (Value.slice.inj h1).2.1
theorem CondsIs.at {w:World} {A:Option Addr} {n c:Nat} {l:List Cnd} (h:CondsIs w A n c l) (h0:0<l.length):∃ b o,A=some ⟨b,o,none⟩∧∀ (j:Nat) (x:Cnd),l[j]?=some x→∃ FA fn fc TA tn tc,IntsAre w FA fn fc x.fr∧IntsAre w TA tn tc x.to ∧
  w.cell? ⟨b,o+j * 5,none⟩=some (.int .u8 (x.letter:Int))∧w.cell? ⟨b,o+j * 5+1,none⟩=some (.int .i64 x.mod)∧w.cell? ⟨b,o+j * 5+2,none⟩=some (.bool x.nt)∧w.cell? ⟨b,o+j * 5+3,none⟩=some (.slice FA fn fc)∧w.cell? ⟨b,o+j * 5+4,none⟩=some (.slice TA tn tc):=by
 obtain ⟨es,rfl,⟨A',c',h1,h2,h3,h4⟩,h5⟩:=h;obtain ⟨b,o,h6,h7⟩:=h4 (by rw [cellsC_len];simp at h0;omega);obtain ⟨rfl,-,-⟩:=Value.slice.inj h1;refine ⟨b,o,h6,fun j x hx=>?_⟩;rw [List.getElem?_map] at hx;obtain ⟨e,he,rfl⟩:=Option.map_eq_some_iff.1 hx;obtain ⟨⟨FA,fn,fc,e1,hF⟩,⟨TA,tn,tc,e2,hT⟩⟩:=h5 e (List.mem_of_getElem? he)
 have key:∀ i u,i<5→(five e)[i]?=some u→w.cell? ⟨b,o+j * 5+i,none⟩=some u:=fun i u hi hu=>by
  rw [Nat.add_assoc];exact h7 _ _ (by rw [cellsC_at es j i e he hi];exact hu)
 exact ⟨FA,fn,fc,TA,tn,tc,hF,hT,key 0 _ (by omega) rfl,key 1 _ (by omega) rfl,key 2 _ (by omega) rfl,key 3 _ (by omega) (by simp [five,e1]),key 4 _ (by omega) (by simp [five,e2])⟩
def RuleIs (w:World) (A:Option Addr) (n c:Nat) (r:Rl):Prop :=
 ∃ xs:List Value,SlC w (.slice A n c) 1 r.length xs∧F2 (fun x l=>∃ A n c,x=.slice A n c∧CondsIs w A n c l) xs r
theorem RuleIs.below {w w':World} {A:Option Addr} {n c B:Nat} {r:Rl} (h:RuleIs w A n c r) (hb:Below B w w') (hB:w.heap.size≤B):RuleIs w' A n c r:=by
 obtain ⟨xs,h1,h2⟩:=h;exact ⟨xs,h1.below hb hB,h2.mono fun x l ⟨A,n,c,e,k⟩=>⟨A,n,c,e,k.below hb hB⟩⟩
theorem RuleIs.len {w:World} {A:Option Addr} {n c:Nat} {r:Rl} (h:RuleIs w A n c r):n=r.length:=by
 obtain ⟨xs,⟨A',c',h1,-⟩,-⟩:=h;exact (Value.slice.inj h1).2.1
theorem RuleIs.at {w:World} {A:Option Addr} {n c:Nat} {r:Rl} (h:RuleIs w A n c r) (h0:0<r.length):∃ b o,A=some ⟨b,o,none⟩∧∀ (j:Nat) (l:List Cnd),r[j]?=some l→∃ A n c,w.cell? ⟨b,o+j,none⟩=some (.slice A n c)∧CondsIs w A n c l:=by
 obtain ⟨xs,⟨A',c',h1,h2,h3,h4⟩,h5⟩:=h;obtain ⟨b,o,h6,h7⟩:=h4 (by omega);obtain ⟨rfl,-,-⟩:=Value.slice.inj h1;refine ⟨b,o,h6,fun j l hl=>?_⟩;obtain ⟨x,hx,A,n,c,rfl,hc⟩:=h5.at j l hl;exact ⟨A,n,c,h7 j _ hx,hc⟩
theorem RuleAre.is {w:World} {A:Option Addr} {n c:Nat} {r:Rl} (h:RuleAre w A n c r):RuleIs w A n c r:=by
 obtain ⟨xs,h1,h2⟩:=h;refine ⟨xs,h1,h2.mono fun x l ⟨lo,k⟩=>?_⟩;obtain ⟨A,n,c,rfl⟩:=k.form;obtain ⟨es,k1,k2,k3,k4⟩:=k;exact ⟨A,n,c,rfl,es,k1,k2,fun e he=>⟨(k3 e he).1.1,(k3 e he).2.1.1⟩⟩
theorem RuleAreB.is {lo:Nat} {w:World} {A:Option Addr} {n c:Nat} {r:Rl} (h:RuleAreB lo w A n c r):RuleIs w A n c r:=h.are.is
structure SmallR (r:Rl):Prop where
 len:r.length≤1000
 rows:∀ l ∈ r,l.length≤1000∧∀ c ∈ l,SmallC c
theorem writeL_len {l:List Cnd} (h:l.length≤1000∧∀ c ∈ l,SmallC c):(writeL l).length≤60000000:=by
 have:=join_le [32,97,110,100,32] 1000 50000 (l.map writeC) (fun w hw=>by obtain ⟨c,hc,rfl⟩:=List.mem_map.1 hw;exact writeC_len (h.2 c hc)) (by simpa using h.1);unfold writeL;simp at this ⊢;omega
theorem writeR_len {r:Rl} (h:SmallR r):(writeR r).length≤70000000000:=by
 have:=join_le [32,111,114,32] 1000 60000000 (r.map writeL) (fun w hw=>by obtain ⟨l,hl,rfl⟩:=List.mem_map.1 hw;exact writeL_len (h.rows l hl)) (by simpa using h.len);unfold writeR;simp at this ⊢;omega
theorem ownS_push {w1:World} {B g cap:Nat} {ws:List Bs} {t:Bs} (ho:w1.ownsRow B 9 1 (.slice (some ⟨g,0,none⟩) (ws.length+1) cap) (ws.length+1) (strs ws ++ [.string ⟨t.toArray⟩])):OwnS w1 B (.slice (some ⟨g,0,none⟩) (ws.length+1) cap) (ws ++ [t]):=by
 show World.ownsRow _ _ 9 1 _ (ws ++ [t]).length (strs (ws ++ [t]));rw [strs_app,List.length_append];exact ho
def InR (W2:World) (l:List Cnd) (v i:Value) (wr:World):Prop :=
 ∃ (j:Nat) (L:List Bs),j≤l.length∧i=.int .i64 j∧L=(l.take j).map writeC∧L.length=j∧OwnS wr W2.heap.size v L∧Below W2.heap.size W2 wr
def OutR (W:World) (r:Rl) (v i:Value) (wr:World):Prop :=
 ∃ (k:Nat) (L:List Bs),k≤r.length∧i=.int .i64 k∧L=(r.take k).map writeL∧L.length=k∧OwnS wr W.heap.size v L∧Below W.heap.size W wr
theorem rule_write (w:World) (A:Option Addr) (n c:Nat) (r:Rl) (hG:GW w) (h:RuleIs w A n c r) (hs:SmallR r) :
  Calls Tryz.prog 58 #[.agg #[.slice A n c]] w fun e w'=>e=.returned (.string ⟨(writeR r).toArray⟩)∧Below w.heap.size w w':=by
 obtain rfl:n=r.length:=h.len;obtain ⟨i9,hi9,hz90,hz91,hz92⟩:=info_parts Tryz_info9;have HG:=qh hG;have HX:=qh h;have HS:=qh hs;have hrl:=hs.len;have hrI:(r.length:Int)≤1000:=by omega
 clear hG h hs;go_enter Tryz.func58,Tryz.ntmps58;go_upto_region 1 with fail;refine wp_letter (fun w1=>Blk w1 w.heap.size 30 [.slice A r.length c]∧Below w.heap.size w w1) ⟨Blk.made _ 30 _ _ _ rfl rfl,(Below.refl _ _).alloc ql _⟩ ?_;rintro w1 ⟨b0,hb⟩;have HB:=qh hb;have HX1:=qh (HX.o.below hb ql);have k0:=b0.c1;have hz1:=b0.lt;clear b0 hb;go_wp2_with fail;go_loopw [3,12] (OutR w1 r) (fun _ i _=>r.length - (intOf i).toNat)
 case atStart=>exact ⟨0,[],Nat.zero_le _,rfl,rfl,rfl,World.ownsRow_nil _ _ _ _,Below.refl _ _⟩
 case round =>
  obtain ⟨k,L,hk,rfl,hL,hLk,hO,hb⟩:=hrel;subst hLk;have HL:=qh hL;have HO:=qh hO;have HBR:=qh hb;have HBW:=qt HB hb;clear hL hO hb;by_cases hlt:L.length<r.length
  ·obtain ⟨b,o,hA,hc⟩:=(HX1.o.below HBR.o ql).at (by omega);subst hA;obtain ⟨l,hl⟩:∃ l,r[L.length]?=some l:=⟨r[L.length],List.getElem?_eq_getElem hlt⟩;obtain ⟨lA,ln,lc,hck,hcs⟩:=hc L.length l hl;have hsl:=HS.o.rows l (List.mem_of_getElem? hl);have HLL:=qh hl;have HCS:=qh hcs;have HSL:=qh hsl;obtain rfl:ln=l.length:=hcs.len;have hkI:(L.length:Int)<(r.length:Int):=by omega
   have hk0:(0:Int)≤(L.length:Int):=by omega
   have hll:l.length≤1000:=hsl.1;have hlI:(l.length:Int)≤1000:=by omega
   clear hc hl hcs hsl;obtain ⟨wo,rfl⟩:∃ wo:World,wo=wr:=⟨_,rfl⟩;go_wp2_with fail;go_loopw [6,18] (InR wo l) (fun _ i _=>l.length - (intOf i).toNat)
   case atStart=>exact ⟨0,[],Nat.zero_le _,rfl,rfl,rfl,World.ownsRow_nil _ _ _ _,Below.refl _ _⟩
   case round =>
    obtain ⟨j,L2,hj,rfl,hL2,hLj,hO2,hb2⟩:=hrel;subst hLj;have HL2:=qh hL2;have HO2:=qh hO2;have HB2:=qh hb2;clear hL2 hO2 hb2;by_cases hjl:L2.length<l.length
    ·obtain ⟨b2,o2,hA2,hc2⟩:=(HCS.o.below HB2.o ql).at (by omega);subst hA2;obtain ⟨x,hx⟩:∃ x,l[L2.length]?=some x:=⟨l[L2.length],List.getElem?_eq_getElem hjl⟩;obtain ⟨FA,fn,fc,TA,tn,tc,hF,hT,c0,c1,c2,c3,c4⟩:=hc2 L2.length x hx;have hsx:=HSL.o.2 x (List.mem_of_getElem? hx);have HXX:=qh hx;have HF:=qh hF;have HT:=qh hT;have HSX:=qh hsx;have hjI:(L2.length:Int)<(l.length:Int):=by omega
     have hj0:(0:Int)≤(L2.length:Int):=by omega
     clear hc2 hx hF hT hsx;go_wp2_with fail;have hba:=(Below.refl wr.heap.size wr).alloc ql (.cells #[.int .u8 (x.letter:Int),.int .i64 x.mod,.bool x.nt,.slice FA fn fc,.slice TA tn tc] 47);refine (cond_write _ x FA TA fn fc tn tc ((HG.o.below (HBW.o.trans (HB2.o.mono HBW.o.size)) ql).below hba ql) (HF.o.below hba ql) (HT.o.below hba ql) HSX.o).mono ?_;rintro e w5 ⟨rfl,hb5⟩;have hb6:=hba.trans (hb5.mono hba.size);have O5:=qh (own_kept_below HO2.o hb6);have HBZ:=qt HB2 hb6;have hmx:=maxLen_ge;clear hba hb5 hb6 c0 c1 c2 c3 c4;dsimp only;go_wp2_with (at_builtin;refine wpList_append_lies _ (by rfl) (.tmp 22) (.tmp 25) 54 (by rfl) wo.heap.size 9 i9 (.string ByteArray.empty) 1 16 Tryz.underlying54 hi9 hz90 hz91 hz92 rfl (by decide) _ L2.length (strs L2) (by rfl) (World.ownsRow.alloc O5.o _) ⟨w5.heap.size,0,none⟩ 1 1 [.string ⟨(writeC x).toArray⟩] (by rfl) rfl (cell_one_new _ _ _) (by simp [Value.oneCell']) (by omega) (by omega) (by omega) (by have:=HBZ.o.size;simp;omega) (w5.heap.size+1) (by simp) ?_;intro g1 cap1 w7 hown hgrow hat hlt7;have HO7:=qh hown;have HG7:=qh hgrow;clear hown hgrow hat)
     go_roundw
     case rel =>
      refine ⟨L2.length+1,L2 ++ [writeC x],by omega,by go_num,?_,by simp,ownS_push HO7.o,below_grown (HBZ.o.alloc HBZ.o.size _) HG7.o (by have:=HBZ.o.size;simp;omega) (fun j hj=>(World.ownsRow.lt O5.o j hj).1)⟩;rw [List.take_add_one,HXX.o,List.map_append,← HL2.o];rfl
     case measure=>simp [intOf];omega
    ·have hal:L2=l.map writeC:=by rw [HL2.o,List.take_of_length_le (by omega)]
     obtain ⟨sA,sn,sc,rfl,hst⟩:=OwnS.strs HO2.o;have HST:=qh hst;have hjI:¬ (L2.length:Int)<(l.length:Int):=by omega
     have hjl2:=join_le [32,97,110,100,32] 1000 50000 (l.map writeC) (fun w hw=>by obtain ⟨c,hc,rfl⟩:=List.mem_map.1 hw;exact writeC_len (HSL.o.2 c hc)) (by simpa using hll);have HJ:=qh hjl2;have HAL:=qh hal;have hl2l:L2.length≤1000:=by omega
     clear hst hjl2 hal;go_wp2_with fail;refine (str_join wr sA sn sc L2 ⟨#[32,97,110,100,32]⟩ HST.o (by omega) (by rw [HAL.o];have:=HJ.o;simp at this ⊢;omega)).mono ?_;rintro e w5 ⟨rfl,hb5⟩;have hww:(Lib.join L2 (⟨#[32,97,110,100,32]⟩:ByteArray).data.toList)=writeL l:=by rw [HAL.o];rfl
     rw [hww];have hb6:=HB2.o.trans (hb5.mono HB2.o.size);have O5:=qh (own_kept_below HO.o hb6);have HBZ:=qt HBR hb6;have hmx:=maxLen_ge;have hLl:L.length≤1000:=by omega
     clear hb5 hb6 hww;dsimp only;go_wp2_with (at_builtin;refine wpList_append_lies _ (by rfl) (.tmp 28) (.tmp 31) 54 (by rfl) w1.heap.size 9 i9 (.string ByteArray.empty) 1 16 Tryz.underlying54 hi9 hz90 hz91 hz92 rfl (by decide) _ L.length (strs L) (by rfl) (World.ownsRow.alloc O5.o _) ⟨w5.heap.size,0,none⟩ 1 1 [.string ⟨(writeL l).toArray⟩] (by rfl) rfl (cell_one_new _ _ _) (by simp [Value.oneCell']) (by omega) (by omega) (by omega) (by have:=HBZ.o.size;simp;omega) (w5.heap.size+1) (by simp) ?_;intro g1 cap1 w7 hown hgrow hat hlt7;have HO7:=qh hown;have HG7:=qh hgrow;clear hown hgrow hat)
     go_roundw
     case rel =>
      refine ⟨L.length+1,L ++ [writeL l],by omega,by go_num,?_,by simp,ownS_push HO7.o,below_grown (HBZ.o.alloc HBZ.o.size _) HG7.o (by have:=HBZ.o.size;simp;omega) (fun j hj=>(World.ownsRow.lt O5.o j hj).1)⟩;rw [List.take_add_one,HLL.o,List.map_append,← HL.o];rfl
     case measure=>simp [intOf];omega
  ·have hal:L=r.map writeL:=by rw [HL.o,List.take_of_length_le (by omega)]
   obtain ⟨sA,sn,sc,rfl,hst⟩:=OwnS.strs HO.o;have HST:=qh hst;have hkI:¬ (L.length:Int)<(r.length:Int):=by omega
   have hjl2:=join_le [32,111,114,32] 1000 60000000 (r.map writeL) (fun w hw=>by obtain ⟨l,hl,rfl⟩:=List.mem_map.1 hw;exact writeL_len (HS.o.rows l hl)) (by simpa using hrl);have HJ:=qh hjl2;have HAL:=qh hal;have hl2l:L.length≤1000:=by omega
   clear hst hjl2 hal;go_wp2_with fail;refine (str_join wr sA sn sc L ⟨#[32,111,114,32]⟩ HST.o (by omega) (by rw [HAL.o];have:=HJ.o;simp at this ⊢;omega)).mono ?_;rintro e w5 ⟨rfl,hb5⟩;have hww:(Lib.join L (⟨#[32,111,114,32]⟩:ByteArray).data.toList)=writeR r:=by rw [HAL.o];rfl
   rw [hww];have HBZ:=qt HBW hb5;clear hb5 hww;dsimp only;go_wp2_with fail;go_ret
   exact ⟨rfl,HBZ.o⟩
end Go.Proofs.YtdgleeglndcjhaaGreatDoor
namespace Go
variable {P:Program} {Q:Exit→Act→World→Prop} {S:World→Prop}
def TailQ (P:Program) (o:Oper) (Q:Exit→Act→World→Prop):Exit→Act→World→Prop
 | .normal,a,w=>o.wp P a w (Q .normal) Q
 | e,a,w=>Q e a w
def lastOk (ops:Array Oper) (o:Oper):Bool :=
 o.guard.isNone &&
 (List.range ops.size).all (fun i =>
  (match ops[i]? with
   | some p=>p.after.all (fun e=>!Region.binds .any e || decide (e.on<i)) && (match p.guard with|some (g,_)=>decide (g<ops.size)|none=>true)
   | none=>true) &&
  (o.after.any (fun e=>Region.binds .any e && e.on == i) ||
   (List.range ops.size).any fun j=>decide (i<j) && match ops[j]? with
    | some p=>p.after.any (fun e=>Region.binds .any e && e.on == i)
    | none=>false)) &&
 o.after.all (fun e=>decide (e.on<ops.size))
theorem upon_tail {o p:Oper} {a:Act} {K K':Act→World→Prop} (hK:∀ a w,K a w→K' a w) {r:Result Next} (h:p.upon P a K (TailQ P o Q) r):p.upon P a K' Q r:=by
 cases r with
 | ok n w' =>
  cases n <;> simp only [Oper.upon] at h ⊢ <;>
   first
    | exact hK _ _ h
    | exact Calls.mono h (fun e w'' he=>by cases e <;> first|exact hK _ _ he|exact he)
    | exact Rows.mono h (fun _ _ he=>hK _ _ he)
 | halt x w'=>cases x <;> simp only [Oper.upon] at h ⊢ <;> exact h
section
variable {ops:Array Oper} {o:Oper}
theorem yielded_push {tmps:Array Value} {g:Nat} (h:g<ops.size):yielded (ops.push o) tmps g=yielded ops tmps g:=by
 unfold yielded;rw [Array.getElem?_push_lt h,← Array.getElem?_eq_getElem h]
theorem wpOp_tail {i:Nat} (hi:i<ops.size) (hg:∀ p g b,ops[i]?=some p→p.guard=some (g,b)→g<ops.size) {a:Act} {w:World} {K K':Act→World→Prop} (hK:∀ a w,K a w→K' a w)
  (h:wpOp P ops (TailQ P o Q) i K a w):wpOp P (ops.push o) Q i K' a w:=by
 unfold wpOp at *
 rw [Array.getElem?_push_lt hi];rw [Array.getElem?_eq_getElem hi] at h;simp only at h ⊢
 have hw:Region.wanted ops[i] (yielded (ops.push o) a.tmps)=Region.wanted ops[i] (yielded ops a.tmps):=by
  unfold Region.wanted;cases hgd:ops[i].guard with
  | none=>rfl
  | some gb =>
   obtain ⟨g,b⟩:=gb;simp only [yielded_push (hg _ g b (Array.getElem?_eq_getElem hi) hgd)]
 rw [hw];split
 ·rename_i hh;rw [if_pos hh] at h;rcases h with h|⟨h1,h2⟩
  ·exact .inl (upon_tail hK h)
  ·exact .inr ⟨h1,h2⟩
 ·rename_i hh;rw [if_neg hh] at h;exact hK _ _ h
def ClosedL (ops:Array Oper) (listed:Array Bool):Prop:=listed.size=ops.size∧∀ j p,ops[j]?=some p→listed.getD j false=true→∀ e ∈ p.after,Region.binds .any e=true→listed.getD e.on false=true
structure LastOk (ops:Array Oper) (o:Oper):Prop where
 guard:o.guard=none
 back:∀ (i:Nat) (p:Oper),ops[i]?=some p→(∀ e ∈ p.after,Region.binds .any e=true→e.on<i)∧∀ g b,p.guard=some (g,b)→g<ops.size
 next:∀ i:Nat,i<ops.size→(∃ e ∈ o.after,Region.binds .any e=true∧e.on=i)∨∃ (j:Nat) (p:Oper),i<j∧ops[j]?=some p∧∃ e ∈ p.after,Region.binds .any e=true∧e.on=i
 last:∀ e ∈ o.after,e.on<ops.size
theorem LastOk.of (h:lastOk ops o=true):LastOk ops o:=by
 unfold lastOk at h;simp only [Bool.and_eq_true,List.all_eq_true,List.mem_range,Option.isNone_iff_eq_none] at h;obtain ⟨⟨h1,h2⟩,h3⟩:=h;refine ⟨h1,fun i p hp=>?_,fun i hi=>?_,fun e he=>?_⟩
 ·have hi:i<ops.size:=(Array.getElem?_eq_some_iff.1 hp).1;have:=(h2 i hi).1;rw [hp] at this;simp only [Bool.and_eq_true] at this;refine ⟨fun e he=>?_,fun g b hg=>?_⟩
  ·intro hb;have h:=Array.all_eq_true_iff_forall_mem.1 this.1 e he;simpa [hb] using h
  ·have h:=this.2;rw [hg] at h;exact of_decide_eq_true h
 ·have:=(h2 i hi).2;simp only [Bool.or_eq_true,List.any_eq_true,List.mem_range] at this;rcases this with h|⟨j,hj,h⟩
  ·obtain ⟨e,he,hb⟩:=Array.any_eq_true'.1 h;simp only [Bool.and_eq_true,beq_iff_eq] at hb;exact .inl ⟨e,he,hb.1,hb.2⟩
  ·simp only [Bool.and_eq_true,decide_eq_true_eq] at h;have hp:ops[j]?=some ops[j]:=Array.getElem?_eq_getElem hj;have h':=h.2;rw [hp] at h';obtain ⟨e,he,hb⟩:=Array.any_eq_true'.1 h';simp only [Bool.and_eq_true,beq_iff_eq] at hb;exact .inr ⟨j,_,h.1,hp,e,he,hb.1,hb.2⟩
 ·exact of_decide_eq_true (Array.all_eq_true_iff_forall_mem.1 h3 e he)
theorem getD_push {listed:Array Bool} {i:Nat} {b d:Bool} (h:i<listed.size):(listed.push b).getD i d=listed.getD i d:=by
 simp only [Array.getD_eq_getD_getElem?,Array.getElem?_push_lt h,Array.getElem?_eq_getElem h]
theorem getD_lt {listed:Array Bool} {i:Nat} (h:i<listed.size) (d d':Bool):listed.getD i d=listed.getD i d':=by
 simp [Array.getElem?_eq_getElem h]
theorem all_listed (H:LastOk ops o) {listed:Array Bool} (hc:ClosedL ops listed) (hr:Region.ready .any ops listed=[]):∀ i,i<ops.size→listed.getD i true=true:=by
 intro i
 induction i using Nat.strongRecOn with
 | _ i ih =>
  intro hi;cases e:listed.getD i true with
  | true=>rfl
  | false =>
   have:i ∈ Region.ready .any ops listed:=by
    rw [mem_ready];refine ⟨e,ops[i],Array.getElem?_eq_getElem hi,fun d hd hb=>?_⟩;have hlt:=(H.back i _ (Array.getElem?_eq_getElem hi)).1 d hd hb;have:=ih d.on hlt (by omega);rw [getD_lt (by rw [hc.1];omega) false true];exact this
   rw [hr] at this;cases this
theorem last_ready (H:LastOk ops o) {listed:Array Bool} (hc:ClosedL ops listed) (ha:∀ e ∈ o.after,Region.binds .any e=true→listed.getD e.on false=true):∀ i,i<ops.size→listed.getD i true=true:=by
 have key:∀ k i,i<ops.size→ops.size - i=k→listed.getD i true=true:=by
  intro k
  induction k using Nat.strongRecOn with
  | _ k ih =>
   intro i hi hk;rw [getD_lt (by rw [hc.1];exact hi) true false];rcases H.next i hi with ⟨e,he,hb,rfl⟩|⟨j,p,hj,hp,e,he,hb,rfl⟩
   ·exact ha e he hb
   ·have hjs:j<ops.size:=(Array.getElem?_eq_some_iff.1 hp).1;have hl:=ih (ops.size - j) (by omega) j hjs rfl;rw [getD_lt (by rw [hc.1];exact hjs) true false] at hl;exact hc.2 j p hp hl e he hb
 exact fun i hi=>key _ i hi rfl
theorem ready_push {listed:Array Bool} (hs:listed.size=ops.size) {b:Bool} {i:Nat} (hi:i<ops.size) (hback:∀ p,ops[i]?=some p→∀ e ∈ p.after,Region.binds .any e=true→e.on<i):i ∈ Region.ready .any (ops.push o) (listed.push b)↔i ∈ Region.ready .any ops listed:=by
 rw [mem_ready,mem_ready,Array.getElem?_push_lt hi,← Array.getElem?_eq_getElem hi,getD_push (by omega)];constructor
 ·rintro ⟨h0,p,hp,h⟩;refine ⟨h0,p,hp,fun e he hb=>?_⟩;have:=h e he hb
  rwa [getD_push (by have:=hback p hp e he hb;omega)] at this
 ·rintro ⟨h0,p,hp,h⟩;refine ⟨h0,p,hp,fun e he hb=>?_⟩;rw [getD_push (by have:=hback p hp e he hb;omega)];exact h e he hb
theorem lt_of_ready {listed:Array Bool} {i:Nat} (h:i ∈ Region.ready .any ops listed):i<ops.size:=by
 obtain ⟨-,p,hp,-⟩:=mem_ready.1 h;exact (Array.getElem?_eq_some_iff.1 hp).1
theorem wpAny_last (H:LastOk ops o) {listed:Array Bool} (hs:listed.size=ops.size) (hall:∀ i,i<ops.size→listed.getD i true=true) (fuel:Nat) {a:Act} {w:World} (h:TailQ P o Q .normal a w):wpAny P .any (ops.push o) Q (fuel+1) (listed.push false) a w:=by
 have hn:ops.size ∈ Region.ready .any (ops.push o) (listed.push false):=by
  rw [mem_ready];refine ⟨by simp [← hs],o,by simp,fun e he hb=>?_⟩;have:=H.last e he;rw [getD_push (by omega),getD_lt (by omega) false true];exact hall _ this
 have honly:∀ i ∈ Region.ready .any (ops.push o) (listed.push false),i=ops.size:=by
  intro i hi;have h1:=lt_of_ready hi;simp only [Array.size_push] at h1;rcases Nat.lt_or_ge i ops.size with h2|h2
  ·have h3:=(mem_ready.1 hi).1;rw [getD_push (by omega),hall i h2] at h3;cases h3
  ·omega
 refine ⟨fun h0=>(by rw [h0] at hn;cases hn),fun i hi=>?_⟩;have:=honly i hi;subst this;unfold wpOp;rw [Array.getElem?_push_size];have hw:Region.wanted o (yielded (ops.push o) a.tmps)=true:=by simp [Region.wanted,H.guard]
 simp only [hw,if_true];refine .inl (Oper.wp_mono (fun a w hq=>wpAny_done ?_ hq fuel) h)
 have:∀ i,i ∉ Region.ready .any (ops.push o) ((listed.push false).setIfInBounds ops.size true):=by
  intro i hi;have h1:=lt_of_ready hi;simp only [Array.size_push] at h1;have h3:=(mem_ready.1 hi).1;by_cases he:i=ops.size
  ·subst he;simp [← hs] at h3
  ·rw [getD_set_ne true (Ne.symm he),getD_push (by omega),hall i (by omega)] at h3;cases h3
 exact List.eq_nil_iff_forall_not_mem.2 this
theorem ClosedL.set {listed:Array Bool} (hc:ClosedL ops listed) {i:Nat} (hi:i ∈ Region.ready .any ops listed):ClosedL ops (listed.setIfInBounds i true):=by
 refine ⟨by simp [hc.1],fun j p hp hl e he hb=>?_⟩;obtain ⟨-,q,hq,hall⟩:=mem_ready.1 hi;by_cases hij:i=j
 ·subst hij;rw [hp] at hq;cases hq;exact getD_set_true (hall e he hb)
 ·rw [getD_set_ne false hij] at hl;exact getD_set_true (hc.2 j p hp hl e he hb)
theorem wpAny_tail (H:LastOk ops o):∀ (fuel:Nat) (listed:Array Bool) (a:Act) (w:World),ClosedL ops listed→wpAnyH P .any ops (TailQ P o Q) S fuel listed a w→wpAny P .any (ops.push o) Q (fuel+1) (listed.push false) a w
 | 0,listed,a,w,hc,h=>wpAny_last H hc.1 (all_listed H hc h.1) 0 h.2
 | fuel+1,listed,a,w,hc,h=>by
  by_cases hr:Region.ready .any ops listed=[]
  ·exact wpAny_last H hc.1 (all_listed H hc hr) _ (h.1 hr)
  ·obtain ⟨k,hk⟩:=List.exists_mem_of_ne_nil _ hr;have hks:=lt_of_ready hk;have hk0:=(mem_ready.1 hk).1;refine ⟨fun h0=>?_,fun i hi=>?_⟩
   ·have:=(ready_push (o:=o) (b:=false) hc.1 hks (fun p hp=>(H.back k p hp).1)).2 hk;rw [h0] at this;cases this
   ·have h1:=lt_of_ready hi;simp only [Array.size_push] at h1
    have his:i<ops.size:=by
     rcases Nat.lt_or_ge i ops.size with h2|h2
     ·exact h2
     ·exfalso;have:i=ops.size:=by omega
      subst this;obtain ⟨-,p,hp,hall⟩:=mem_ready.1 hi;rw [Array.getElem?_push_size] at hp;cases hp
      have:=last_ready H hc (fun e he hb=>by
       have h:=hall e he hb
       rwa [getD_push (by have:=H.last e he;rw [hc.1];exact this)] at h) k hks
      rw [hk0] at this;cases this
    have hi':=(ready_push (o:=o) (b:=false) hc.1 his (fun p hp=>(H.back i p hp).1)).1 hi;refine wpOp_tail his (fun p g b hp hg=>(H.back i p hp).2 g b hg) (fun a' w' hk'=>?_) (h.2 i hi');have:=wpAny_tail H fuel _ a' w' (hc.set hi') hk'.2;rw [show (listed.push false).setIfInBounds i true=(listed.setIfInBounds i true).push false from ?_]
    ·exact this
    ·have hls:i<listed.size:=by rw [hc.1];exact his
     simp only [Array.setIfInBounds,Array.size_push,hls,dif_pos,Nat.lt_succ_of_lt hls];rw [Array.set_push,dif_pos hls]
theorem closed_start:ClosedL ops (Array.replicate ops.size false):=by
 refine ⟨by simp,fun j p hp hl=>?_⟩;have hj:=(Array.getElem?_eq_some_iff.1 hp).1;simp [hj] at hl
theorem wp_region_tail {id:Nat} {full:Array Oper} {a:Act} {w:World} (hm:P.follows .mixedOrders=true) (hf:full=ops.push o) (hl:lastOk ops o=true) (hS:S w.drew)
  (h:S w.drew→wpAnyH P .any ops (TailQ P o Q) S ops.size (Array.replicate ops.size false) a w.drew):(Code.region id full true).wp P Q a w:=by
 subst hf;refine wp_region_any hm ?_;have:=wpAny_tail (LastOk.of hl) ops.size _ a w.drew closed_start (h hS);rw [Array.size_push,Array.replicate_succ];exact this
def initL {α:Type}:List α→List α
 | []=>[]
 | [_]=>[]
 | a :: b :: r=>a :: initL (b :: r)
def lastL {α:Type} (d:α):List α→α
 | []=>d
 | a :: r=>lastL a r
theorem initL_last {α:Type}:∀ (d:α) (l:List α),initL (d :: l) ++ [lastL d l]=d :: l
 | _,[]=>rfl
 | _,a :: r=>by
  show _ :: (initL (a :: r) ++ [lastL a r])=_;rw [initL_last a r]
theorem wp_region_but {id:Nat} {x:Oper} {l:List Oper} {a:Act} {w:World} (S:World→Prop) (hm:P.follows .mixedOrders=true) (hl:lastOk (initL (x :: l)).toArray (lastL x l)=true) (hS:S w.drew)
  (h:S w.drew→wpAnyH P .any (initL (x :: l)).toArray (TailQ P (lastL x l) Q) S (initL (x :: l)).toArray.size (Array.replicate (initL (x :: l)).toArray.size false) a w.drew):(Code.region id (x :: l).toArray true).wp P Q a w :=
 wp_region_tail hm (by rw [List.push_toArray,initL_last]) hl hS h
end
end Go
namespace Go
theorem wpAnyH_letter {P:Program} {md:Region.Mode} {ops:Array Oper} {Q:Exit→Act→World→Prop} {S:World→Prop} {fuel:Nat} {listed:Array Bool} {a:Act} {w:World} (R:World→Prop) (h:R w) (k:∀ w1,R w1→wpAnyH P md ops Q S fuel listed a w1):wpAnyH P md ops Q S fuel listed a w:=k w h
def nthL {α:Type}:List α→Nat→Option α
 | [],_=>none
 | a :: _,0=>some a
 | _ :: l,n+1=>nthL l n
theorem nthL_eq {α:Type}:∀ (l:List α) (i:Nat),nthL l i=l[i]?
 | [],_=>by simp [nthL]
 | _ :: _,0=>by simp [nthL]
 | _ :: l,n+1=>by simp [nthL,nthL_eq l n]
section
variable {P:Program} {Q:Exit→Act→World→Prop} {S:World→Prop} {md:Region.Mode} {l:List Oper}
theorem takeL {i:Nat} {oi:Oper} {v:Value} {fuel:Nat} {listed:Array Bool} {a:Act} {w:World} (hi:nthL l i=some oi)
  (hs:Region.noSelect l.toArray=true) (hf:Region.free md l.toArray listed i=true) (hr:(Region.ready md l.toArray listed).contains i=true)
  (hQ:∀ c a w,Q (.panic c) (a.put oi.dst v) w→Q (.panic c) a w) (hy:YieldsIf P l.toArray S oi v a) (hS:S w)
  (h:wpAnyH P md l.toArray Q S fuel (listed.setIfInBounds i true) (a.put oi.dst v) w):wpAnyH P md l.toArray Q S (fuel+1) listed a w :=
 wpAnyH_take (by rw [List.getElem?_toArray,← nthL_eq];exact hi) hs hf hr hQ hy hS h
theorem takeY {i:Nat} {oi:Oper} {v:Value} {fuel:Nat} {listed:Array Bool} {a:Act} {w:World} (hy:∀ w,S w→(execOp a.eval oi).run P w=.ok (.value v) w) (h:wpAnyH P md l.toArray Q S fuel (listed.setIfInBounds i true) (a.put oi.dst v) w) (hi:nthL l i=some oi := by rfl) (hs:Region.noSelect l.toArray=true := by kernel_rfl) (hf:Region.free md l.toArray listed i=true := by kernel_rfl) (hr:(Region.ready md l.toArray listed).contains i=true := by kernel_rfl) (hQ:∀ c a w,Q (.panic c) (a.put oi.dst v) w→Q (.panic c) a w := by exact fun _ _ _ h => h) (hw:Region.wanted oi (yielded l.toArray a.tmps)=true := by rfl) (hS:S w := by assumption):wpAnyH P md l.toArray Q S (fuel+1) listed a w := takeL hi hs hf hr hQ (Or.inl ⟨hw,hy⟩) hS h
theorem takeN {i:Nat} {oi:Oper} {v:Value} {fuel:Nat} {listed:Array Bool} {a:Act} {w:World} (h:wpAnyH P md l.toArray Q S fuel (listed.setIfInBounds i true) (a.put oi.dst v) w) (hi:nthL l i=some oi := by rfl) (hs:Region.noSelect l.toArray=true := by kernel_rfl) (hf:Region.free md l.toArray listed i=true := by kernel_rfl) (hr:(Region.ready md l.toArray listed).contains i=true := by kernel_rfl) (hQ:∀ c a w,Q (.panic c) (a.put oi.dst v) w→Q (.panic c) a w := by exact fun _ _ _ h => h) (hw:Region.wanted oi (yielded l.toArray a.tmps)=false := by rfl) (hv:v=undef := by rfl) (hS:S w := by assumption):wpAnyH P md l.toArray Q S (fuel+1) listed a w := takeL hi hs hf hr hQ (Or.inr ⟨hw,hv⟩) hS h
theorem takeA {i:Nat} {oi:Oper} {v:Value} {fuel:Nat} {listed:Array Bool} {a:Act} {w:World} (h:wpAnyH P md l.toArray Q S fuel (listed.setIfInBounds i true) (a.put oi.dst v) w) (hi:nthL l i=some oi := by rfl) (hs:Region.noSelect l.toArray=true := by kernel_rfl) (hf:Region.free md l.toArray listed i=true := by kernel_rfl) (hr:(Region.ready md l.toArray listed).contains i=true := by kernel_rfl) (hQ:∀ c a w,Q (.panic c) (a.put oi.dst v) w→Q (.panic c) a w := by exact fun _ _ _ h => h) (hy:∀ w,S w→(execOp a.eval oi).run P w=.ok (.value v) w := by (intro wz hSz; (first | have hfz := HF.out wz hSz | have hfz := HW.out wz hSz | have hfz := HJ.out wz hSz | have hfz := hSz); go_split_ands; (first | (go_simp; done) | (go_simp; with_reducible rfl)))) (hw:Region.wanted oi (yielded l.toArray a.tmps)=true := by rfl) (hS:S w := by assumption):wpAnyH P md l.toArray Q S (fuel+1) listed a w := takeL hi hs hf hr hQ (Or.inl ⟨hw,hy⟩) hS h
theorem consL {fuel:Nat} {listed:Array Bool} {a:Act} {w:World} {i:Nat} {o:Oper} {rs:List Nat} (ho:nthL l i=some o)
  (h:∀ K':Act→World→Prop,Shut (∀ a w,S w→(S w→wpAnyH P md l.toArray Q S fuel (listed.setIfInBounds i true) a w)→K' a w)→if Region.wanted o (yielded l.toArray a.tmps)=true then Oper.wp P o a w K' Q else K' (a.put o.dst undef) w)
  (hs:AllReadyH P md l.toArray Q S fuel listed a w rs):AllReadyH P md l.toArray Q S fuel listed a w (i :: rs) :=
 AllReadyH.cons (by rw [List.getElem?_toArray,← nthL_eq];exact ho) h hs
end
end Go
