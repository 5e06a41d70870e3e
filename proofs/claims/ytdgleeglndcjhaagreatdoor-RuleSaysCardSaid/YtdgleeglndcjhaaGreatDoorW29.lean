import Derived.Test.YtdgleeglndcjhaaGreatDoorW28
import Derived.Lib.ItoaLen
set_option linter.unusedSimpArgs false
set_option linter.unusedVariables false
set_option maxHeartbeats 8000000
set_option maxRecDepth 100000
namespace Go.Proofs.YtdgleeglndcjhaaGreatDoor
open Go.RowKit
def RetZR (e:Ending) (w':World) (z:Int) (r:Nat):Prop:=∃ b A n c A' n' c',e=.returned (.tuple #[.agg #[.bool b,.slice A n c],.agg #[.bool false,.slice A' n' c']])∧RZ4 w' b A n c z∧D4 w' A' n' c' r
theorem ref_ZDiv (w:World) (A A':Option Addr) (n c n' c' x y:Nat) (h:D4 w A n c x) (h':D4 w A' n' c' y) (hl:(d4 x).length≤90000) (hl':(d4 y).length≤90000) (hy:y≠0) :
  Calls Tryz.prog 169 #[.agg #[.bool false,.slice A n c],.agg #[.bool false,.slice A' n' c']] w fun e w'=>RetZR e w' ((x / y:Nat):Int) (x % y)∧Below w.heap.size w w':=by
 have HX:=qh h
 have HY:=qh h'
 have L1:=qh hl
 have L2:=qh hl'
 have HY0:=qh hy
 clear h h' hl hl' hy
 go_enter Tryz.func169,Tryz.ntmps169
 go_upto_region 1 with fail
 refine wp_letter (fun w1=>Blk w1 w.heap.size 171 [.bool false,.slice A n c]∧Blk w1 (w.heap.size+1) 171 [.bool false,.slice A' n' c']∧Blk w1 (w.heap.size+1+1) 171 [.bool false,.slice none 0 0]∧Blk w1 (w.heap.size+1+1+1) 171 [.bool false,.slice none 0 0]∧Below w.heap.size w w1) ⟨((((Blk.made _ 171 _ _ _ (by simp) rfl).alloc _).alloc _).alloc _),(((Blk.made _ 171 _ _ _ (by simp) rfl).alloc _).alloc _),((Blk.made _ 171 _ _ _ (by simp) rfl).alloc _),(Blk.made _ 171 _ _ _ (by simp) rfl),(((((Below.refl _ _).alloc (by simp;try omega) _).alloc (by simp;try omega) _).alloc (by simp;try omega) _).alloc (by simp;try omega) _)⟩ ?_
 rintro w1 ⟨b0,b1,b2,b3,hb⟩
 obtain ⟨-,k01⟩:=b0.c2
 obtain ⟨-,k11⟩:=b1.c2
 have HB:=qh hb
 have K0:=qh b0
 have K1:=qh b1
 have K2:=qh b2
 have K3:=qh b3
 have hz:=b3.lt
 clear hb b0 b1 b2 b3
 go_wp2_with fail
 refine (ref_Div w1 A A' n c n' c' x y (HX.out.bel HB.out) (HY.out.bel HB.out) L1.out L2.out HY0.out).mono ?_
 rintro e w2 ⟨⟨A3,n3,c3,A4,n4,c4,rfl,hd3,hd4⟩,hb2⟩
 have HD3:=qh hd3
 have HD4:=qh hd4
 have HB2:=qh hb2
 have k00:=(K0.out.below hb2 (by omega)).c1
 have k10:=(K1.out.below hb2 (by omega)).c1
 clear hd3 hd4 hb2 k01 k11
 dsimp only
 go_wp2_with fail
 refine (ref_ZOf w2 false A3 n3 c3 _ HD3.out).mono ?_
 rintro e w3 ⟨⟨b5,A5,n5,c5,rfl,hr5⟩,hb3⟩
 have hb13:=HB2.out.trans (hb3.mono HB2.out.size)
 have hb03:=HB.out.trans (hb13.mono HB.out.size)
 have x2:=K2.out.below hb13 (by omega)
 have x3:=K3.out.below hb13 (by omega)
 have HR5:=qh hr5
 have HD5:=qh (HD4.out.bel hb3)
 have B03:=qh hb03
 have X2:=qh x2
 have X3:=qh x3
 obtain ⟨k20,k21⟩:=x2.c2
 obtain ⟨k30,k31⟩:=x3.c2
 have f20:=x2.frozen 0
 have f21:=x2.frozen 1
 have f30:=x3.frozen 0
 have f31:=x3.frozen 1
 clear hr5 hb3 hb13 hb03 x2 x3 k00 k10 HD3 HD4 HB2 HX HY
 dsimp only
 go_wp2_with fail
 have a1:=X3.out.far ⟨w.heap.size+1+1,0,none⟩ (.bool b5) (by simp)
 have a2:=a1.far ⟨w.heap.size+1+1,1,none⟩ (.slice A5 n5 c5) (by simp)
 have hf3:=(a2.put 0 (.bool false)).put 1 (.slice A4 n4 c4)
 have hf2:=(((X2.out.put 0 (.bool b5)).put 1 (.slice A5 n5 c5)).far ⟨w.heap.size+1+1+1,0,none⟩ (.bool false) (by simp)).far ⟨w.heap.size+1+1+1,1,none⟩ (.slice A4 n4 c4) (by simp)
 simp only [qqq0,qqq1] at hf2 hf3
 have hs:=(HR5.out.d4.put2 X2.out (noI_z _ _ _ _) (.bool b5) (.slice A5 n5 c5)).put2 a2 (noI_z _ _ _ _) (.bool false) (.slice A4 n4 c4)
 have hs2:=(HD5.out.put2 X2.out (noI_z _ _ _ _) (.bool b5) (.slice A5 n5 c5)).put2 a2 (noI_z _ _ _ _) (.bool false) (.slice A4 n4 c4)
 have hbf:=below_set (below_set (below_set (below_set B03.out (w.heap.size+1+1) 0 (by omega) (.bool b5)) (w.heap.size+1+1) 1 (by omega) (.slice A5 n5 c5)) (w.heap.size+1+1+1) 0 (by omega) (.bool false)) (w.heap.size+1+1+1) 1 (by omega) (.slice A4 n4 c4)
 obtain ⟨r0,r1⟩:=hf2.c2
 obtain ⟨r2,r3⟩:=hf3.c2
 clear a1 a2
 generalize ((((w3.setCell ⟨w.heap.size+1+1,0,none⟩ (.bool b5)).setCell ⟨w.heap.size+1+1,1,none⟩ (.slice A5 n5 c5)).setCell ⟨w.heap.size+1+1+1,0,none⟩ (.bool false)).setCell ⟨w.heap.size+1+1+1,1,none⟩ (.slice A4 n4 c4))=wf at *
 refine bodyPost_ret (v:=.tuple #[.agg #[.bool b5,.slice A5 n5 c5],.agg #[.bool false,.slice A4 n4 c4]]) (by simp [results,Tryz.results169,go_sem,r0,r1,r2,r3];try rfl) rfl ?_
 exact ⟨⟨_,_,_,_,_,_,_,rfl,⟨HR5.out.sign,hs⟩,hs2⟩,hbf⟩
theorem ref_QFloor (w:World) (A B:Option Addr) (n c m d p q:Nat) (h:RQ4 w false A n c B m d (p:Int) q) (hq:0<q) (hl:(d4 p).length≤90000) (hl':(d4 q).length≤90000) :
  Calls Tryz.prog 109 #[.agg #[.bool false,.slice A n c,.slice B m d]] w fun e w'=>RetZ4 e w' ((p / q:Nat):Int)∧Below w.heap.size w w':=by
 have HX:=qh h
 have L1:=qh hl
 have L2:=qh hl'
 have HQ:=qh hq
 clear h hl hl' hq
 go_enter Tryz.func109,Tryz.ntmps109
 go_upto_region 1 with fail
 refine wp_letter (fun w1=>Blk w1 w.heap.size 173 [.bool false,.slice A n c,.slice B m d]∧Blk w1 (w.heap.size+1) 171 [.bool false,.slice none 0 0]∧Below w.heap.size w w1) ⟨((Blk.made _ 173 _ _ _ (by simp) rfl).alloc _),(Blk.made _ 171 _ _ _ (by simp) rfl),((Below.refl _ _).alloc (by simp;try omega) _).alloc (by simp;try omega) _⟩ ?_
 rintro w1 ⟨b0,b1,hb⟩
 obtain ⟨k00,k01,k02⟩:=b0.c3
 have HB:=qh hb
 have K1:=qh b1
 have hz:=b1.lt
 have HX1:=qh (HX.out.bel hb)
 clear hb b0 b1 HX
 go_wp2_with fail
 refine (ref_ZDiv w1 A B n c m d p q (by simpa using HX1.out.up.d4) HX1.out.down L1.out L2.out (Nat.ne_of_gt HQ.out)).mono ?_
 rintro e w2 ⟨⟨b3,A3,n3,c3,A4,n4,c4,rfl,hr3,hd4⟩,hb2⟩
 have x1:=K1.out.below hb2 (by omega)
 have hb02:=HB.out.trans (hb2.mono HB.out.size)
 have B02:=qh hb02
 have X1:=qh x1
 have HR3:=qh hr3
 have hz2:=x1.lt
 clear hr3 hd4 hb2 x1 hb02 k00 k01 k02
 dsimp only
 go_upto_region 2 with fail
 refine wp_letter (fun wx=>Blk wx w2.heap.size 171 [.bool b3,.slice A3 n3 c3]∧Blk wx (w.heap.size+1) 171 [.bool false,.slice none 0 0]∧RZ4 wx b3 A3 n3 c3 ((p / q:Nat):Int)∧Below w.heap.size w wx) ⟨(Blk.made _ 171 _ _ _ (by simp) rfl).alloc _,(X1.out.alloc _).alloc _,HR3.out.bel (((Below.refl _ _).alloc (by simp) _).alloc (by simp) _),(B02.out.alloc B02.out.size _).alloc (by have:=B02.out.size;simp;omega) _⟩ ?_
 rintro wx ⟨y0,y1,y2,y3⟩
 have Y1:=qh y1
 have Y2:=qh y2
 have Y3:=qh y3
 obtain ⟨k00,k01⟩:=y0.c2
 obtain ⟨k10,k11,f10,f11⟩:=y1.cf2
 clear y0 y1 y2 y3
 go_wp2_with fail
 have hf:=(Y1.out.put 0 (.bool b3)).put 1 (.slice A3 n3 c3)
 simp only [qqq0,qqq1] at hf
 have hs:=Y2.out.d4.put2 Y1.out (noI_z _ _ _ _) (.bool b3) (.slice A3 n3 c3)
 have hbf:=below_set (below_set Y3.out (w.heap.size+1) 0 (by omega) (.bool b3)) (w.heap.size+1) 1 (by omega) (.slice A3 n3 c3)
 obtain ⟨r0,r1⟩:=hf.c2
 generalize ((wx.setCell ⟨w.heap.size+1,0,none⟩ (.bool b3)).setCell ⟨w.heap.size+1,1,none⟩ (.slice A3 n3 c3))=wf at *
 refine bodyPost_ret (v:=.agg #[.bool b3,.slice A3 n3 c3]) (by simp [results,Tryz.results109,go_sem,r0,r1];try rfl) rfl ?_
 exact ⟨⟨_,_,_,_,rfl,Y2.out.sign,hs⟩,hbf⟩
def lenStr:Value→Nat
 | .string b=>b.size
 | _=>0
theorem conv_one (x:Nat) (hx:x<256) (W:World):(convert 176 9 (.slice (some ⟨W.heap.size,0,none⟩) 1 1)).run Tryz.prog (W.alloc (.cells #[.int .u8 (x:Int)] 5))=.ok (.string ⟨#[UInt8.ofNat x]⟩) (W.alloc (.cells #[.int .u8 (x:Int)] 5)) :=
 run_convert_bytes_back _ 176 9 5 ⟨W.heap.size,0,none⟩ 1 [UInt8.ofNat x] Tryz.underlying176 Tryz.underlying5 Tryz.underlying9 (fun j hj=>by
  obtain rfl:j=0:=by simp at hj;exact hj
  exact cell_one_new W _ 5 0 _ (by simp [u8 _ hx]))
theorem ref_digits (w:World) (n least:Nat) (hn:n<10000) (hl:least≤4) :
  Calls Tryz.prog 175 #[.int .i64 (n:Int),.int .i64 (least:Int)] w fun e w'=>∃ J,e=.returned (.string ⟨(padD J n).toArray⟩)∧Digs n least J∧Below w.heap.size w w':=by
 go_enter Tryz.func175,Tryz.ntmps175
 go_wp2_with fail
 go_loopw [0,5] (fun i s wr=>∃ j q:Nat,i=.int .i64 (q:Int)∧q=n / 10 ^ j∧s=.string ⟨(padD j n).toArray⟩∧j≤4∧(j≤least∨(1≤j∧10 ^ (j - 1)≤n))∧Below w.heap.size w wr) (fun i s _=>(intOf i).toNat+(4 - lenStr s))
 case atStart=>exact ⟨0,n,rfl,by simp,rfl,by omega,.inl (by omega),Below.refl _ _⟩
 case round =>
  obtain ⟨j,q,rfl,hq,rfl,hj4,hj,hb⟩:=hrel
  obtain ⟨wo,rfl⟩:∃ wo:World,wo=wr:=⟨_,rfl⟩
  have hpl:=padD_len j n
  obtain ⟨t,ht⟩:∃ t,padD j n=t:=⟨_,rfl⟩
  rw [ht] at hpl ⊢
  have HT:=qh ht
  have HQ:=qh hq
  have HJ:=qh hj
  have HB:=qh hb
  have hsz:=hb.size
  have hqn:q≤n:=by rw [hq];exact Nat.div_le_self _ _
  have hpl4:t.length≤4:=by omega
  have HPL:=qh hpl
  by_cases hgo:0<q∨j<least
  case neg =>
   have h0:¬ (0:Int)<(q:Int):=by omega
   have h1:¬ (t.length:Int)<(least:Int):=by omega
   clear ht hq hj hb hgo
   go_wp2_with fail
   go_ret
   refine ⟨j,by rw [HT.out];rfl,⟨?_,?_,?_⟩,HB.out⟩
   ·have:=HQ.out
    have h2:n / 10 ^ j=0:=by omega
    exact (Nat.div_eq_zero_iff_lt (Nat.pow_pos (by decide))).1 h2
   ·have:=HPL.out;omega
   ·rcases HJ.out with h|h
    ·left;have:=HPL.out;omega
    ·exact .inr h
  obtain ⟨r,hr⟩:∃ r,q % 10=r:=⟨_,rfl⟩
  obtain ⟨p,hp⟩:∃ p,q / 10=p:=⟨_,rfl⟩
  have hrI:(q:Int).tmod 10=(r:Int):=by rw [Int.tmod_eq_emod_of_nonneg (by omega)];omega
  have hpI:(q:Int).tdiv 10=(p:Int):=by rw [Int.tdiv_eq_ediv_of_nonneg (by omega)];omega
  obtain ⟨x,hx⟩:∃ x,48+r=x:=⟨_,rfl⟩
  have hxI:(48:Int)+(r:Int)=(x:Int):=by omega
  have hx2:x<256:=by omega
  have hxm:(x:Int) % 256=(x:Int):=by omega
  have hc:=conv_one x hx2 wo
  have hpq:p≤q:=by omega
  have hp9:p≤9999:=by omega
  have hnext:padD (j+1) n=UInt8.ofNat x :: t:=by
   rw [padD_top,← hq,hr,hx,ht]
  have hpn:p=n / 10 ^ (j+1):=by rw [← hp,hq,Nat.div_div_eq_div_mul,Nat.pow_succ]
  have hj1:j+1≤least∨(1≤j+1∧10 ^ (j+1 - 1)≤n):=by
   rcases Nat.eq_zero_or_pos q with h|h
   ·left;omega
   ·right
    refine ⟨by omega,?_⟩
    rw [Nat.add_sub_cancel]
    rcases Nat.lt_or_ge n (10 ^ j) with h2|h2
    ·rw [Nat.div_eq_of_lt h2] at hq;omega
    ·exact h2
  have hj5:j+1≤4:=by
   rcases hj1 with h|⟨-,h⟩
   ·omega
   ·rw [Nat.add_sub_cancel] at h
    rcases Nat.lt_or_ge j 4 with h2|h2
    ·omega
    ·have:=Nat.pow_le_pow_right (n:=10) (by decide) h2;omega
  have HN:=qh hnext
  have HP:=qh hpn
  have HJ1:=qh hj1
  have HJ5:=qh hj5
  have hfin:∃ wf:World,wf=wo.alloc (.cells #[.int .u8 (x:Int)] 5):=⟨_,rfl⟩
  have hstr:(⟨#[UInt8.ofNat x]⟩:ByteArray) ++ ⟨t.toArray⟩=⟨(padD (j+1) n).toArray⟩:=by
   rw [hnext];apply ByteArray.ext;simp
  have HS:=qh hstr
  have HPQ:=qh hpq
  clear ht hq hj hb hr hp hx hnext hpn hj1 hstr hfin hpq
  by_cases h0:0<q
  ·have h0I:(0:Int)<(q:Int):=by omega
   clear hgo
   go_wp2_with fail
   go_roundw
   case rel =>
    exact ⟨j+1,p,by go_num,HP.out,by rw [← HS.out],HJ5.out,HJ1.out,HB.out.alloc HB.out.size _⟩
   case measure=>simp [intOf,lenStr,ByteArray.size];have:=HPQ.out;have:=HPL.out;have:=HJ5.out;omega
  ·have h0I:¬ (0:Int)<(q:Int):=by omega
   have h1I:(t.length:Int)<(least:Int):=by omega
   clear hgo
   go_wp2_with fail
   go_roundw
   case rel =>
    exact ⟨j+1,p,by go_num,HP.out,by rw [← HS.out],HJ5.out,HJ1.out,HB.out.alloc HB.out.size _⟩
   case measure=>simp [intOf,lenStr,ByteArray.size];have:=HPQ.out;have:=HPL.out;have:=HJ5.out;omega
theorem drop_pos {l:List Nat} (hc:Canon4 l) {j:Nat} (hj:j<l.length):0<v4 (l.drop j):=by
 have hne:l≠[]:=by intro e;subst e;simp at hj
 have h1:=v4_app (l.drop j).dropLast [l.getLast hne]
 have h2:(l.drop j).dropLast ++ [l.getLast hne]=l.drop j:=by
  have hne2:l.drop j≠[]:=by intro e;have:=congrArg List.length e;simp at this;omega
  rw [← List.getLast_drop hne2]
  exact List.dropLast_concat_getLast hne2
 rw [h2] at h1
 rw [h1]
 have hx:0<l.getLast hne:=by
  rcases Nat.eq_zero_or_pos (l.getLast hne) with h|h
  ·exact absurd (by rw [List.getLast?_eq_some_getLast hne,h]) hc
  ·exact h
 have h3:0<10000 ^ (l.drop j).dropLast.length:=Nat.pow_pos (by decide)
 simp only [v4,Nat.mul_zero,Nat.add_zero]
 have:=Nat.mul_pos h3 hx
 omega
theorem ref_Text (w:World) (A:Option Addr) (n c k:Nat) (h:D4 w A n c k) (hl:(d4 k).length≤100000) :
  Calls Tryz.prog 114 #[.slice A n c] w fun e w'=>e=.returned (.string ⟨(Lib.decDigits k).toArray⟩)∧Below w.heap.size w w':=by
 obtain rfl:n=(d4 k).length:=h.1.len
 by_cases hk:k=0
 ·subst hk
  have hn:((d4 0).length:Int)=0:=by rw [d4_zero];rfl
  have hd:Lib.decDigits 0=[48]:=Lib.decDigits_one (by decide)
  rw [hd]
  generalize (d4 0).length=n at *
  clear h hl hd
  go_enter Tryz.func114,Tryz.ntmps114
  go_wp2_with fail
  go_ret
  exact ⟨rfl,Below.refl _ _⟩
 obtain ⟨a,ha⟩:∃ a,d4 k=a:=⟨_,rfl⟩
 have hva:v4 a=k:=by rw [← ha,v4_d4]
 have hwa:W4 a:=by rw [← ha];exact w4_d4 k
 have hca:Canon4 a:=by rw [← ha];exact canon_of_d4 k
 have hpos:0<a.length:=by rw [← ha];exact (d4_len_pos k).2 (by omega)
 replace h:=h.1
 rw [ha] at h hl ⊢
 obtain ⟨b,o,rfl,hc⟩:=h.at (by omega)
 have HC:Hid (∀ (w':World) (j x:Nat),Below w.heap.size w w'→a[j]?=some x→w'.cell? ⟨b,o+j,none⟩=some (.int .i64 (x:Int))):=fun w' j x hb hx=>(hb.cell (World.block_lt_of_cell? w _ (hc j x hx))).trans (hc j x hx)
 have HVA:=qh hva
 have HWA:=qh hwa
 have HCA:=qh hca
 obtain ⟨m,hm⟩:∃ m,a.length=m+1:=⟨a.length - 1,by omega⟩
 obtain ⟨x,hx⟩:∃ x,a[m]?=some x:=⟨a[m]'(by omega),List.getElem?_eq_getElem _⟩
 have hx4:x<10000:=hwa x (List.mem_of_getElem? hx)
 have htop:v4 (a.drop m)=x:=by
  rw [drop_step,List.drop_eq_nil_of_le (by omega),List.getD_eq_getElem?_getD,hx];simp [v4]
 have HTOP:=qh htop
 have HM:=qh hm
 have hne:((a.length:Int) == 0)=false:=by rw [beq_eq_false_iff_ne];omega
 have hm1:(a.length:Int) - 1=(m:Int):=by omega
 have hm2:(a.length:Int) - 2=(m:Int) - 1:=by omega
 have hml:(m:Int)<(a.length:Int):=by omega
 have hm0:(0:Int)≤(m:Int):=by omega
 have hlI:(a.length:Int)≤100000:=by omega
 have k0:=hc m x hx
 clear h ha hva hwa hca hpos hk hc hx htop hm
 go_enter Tryz.func114,Tryz.ntmps114
 go_wp2_with fail
 refine (ref_digits w x 1 hx4 (by omega)).mono ?_
 rintro e w1 ⟨J,rfl,hJ,hb1⟩
 rw [hJ.dec]
 have hlen1:=decDigits_len x (by omega)
 have HB1:=qh hb1
 obtain ⟨t0,ht0⟩:∃ t0,Lib.decDigits x=t0:=⟨_,rfl⟩
 rw [ht0] at hlen1 ⊢
 have hl1:t0.length≤4:=by
  have h1:=hJ.dec
  have h2:=padD_len J x
  rw [h1,ht0] at h2
  have h3:=hJ.2.2
  rcases h3 with h3|⟨h3,h4⟩
  ·omega
  ·rcases Nat.lt_or_ge 4 J with h5|h5
   ·have:=Nat.pow_le_pow_right (n:=10) (by decide) (show 4≤J - 1 by omega);omega
   ·omega
 have HT0:=qh ht0
 clear hJ hb1 ht0 k0 hlen1
 dsimp only
 go_wp2_with fail
 go_loopw [3,4] (fun s i wr=>∃ (j:Nat) (t:Bs),j≤m∧i=.int .i64 ((j:Int) - 1)∧s=.string ⟨t.toArray⟩∧t=Lib.decDigits (v4 (a.drop j))∧t.length+4 * j≤4 * a.length∧Below w.heap.size w wr) (fun _ i _=>(intOf i+1).toNat)
 case atStart=>exact ⟨m,t0,ql,by go_num,rfl,by rw [HTOP.out,HT0.out],by have:=HM.out;omega,HB1.out⟩
 case round =>
  obtain ⟨j,t,hjm,rfl,rfl,ht,htl,hb⟩:=hrel
  have HT:=qh ht
  have HB:=qh hb
  clear ht hb
  cases j with
  | zero =>
   have hI:¬ (0:Int)≤((0:Nat):Int) - 1:=by omega
   have HF:Hid (t=Lib.decDigits k):=by have:=HT.out;rw [List.drop_zero,HVA.out] at this;exact this
   clear HT
   go_wp2_with fail
   go_ret
   exact ⟨by rw [HF.out];rfl,HB.out⟩
  | succ j =>
   have e1:((j+1:Nat):Int) - 1=(j:Int):=by omega
   rw [e1]
   obtain ⟨y,hy⟩:∃ y,a[j]?=some y:=⟨a[j]'(by have:=HM.out;omega),List.getElem?_eq_getElem _⟩
   have hy4:y<10000:=HWA.out y (List.mem_of_getElem? hy)
   have k1:=HC.out wr j y HB.out hy
   have hstep:Lib.decDigits (v4 (a.drop j))=t ++ padD 4 y:=by
    rw [drop_step,List.getD_eq_getElem?_getD,hy,HT.out,← decDigits_pad 4 _ y (drop_pos HCA.out (by have:=HM.out;omega)) (by omega)]
    congr 1
    simp;omega
   have HST:=qh hstep
   have hj0:(0:Int)≤(j:Int):=by omega
   have hjl:(j:Int)<(a.length:Int):=by have:=HM.out;omega
   have htl2:t.length≤400000:=by omega
   clear hy hstep HT
   go_wp2_with fail
   refine (ref_digits wr y 4 hy4 (by omega)).mono ?_
   rintro e w2 ⟨J,rfl,hJ,hb2⟩
   rw [hJ.pad (by omega)]
   have hpl:=padD_len 4 y
   obtain ⟨u,hu⟩:∃ u,padD 4 y=u:=⟨_,rfl⟩
   rw [hu] at hpl ⊢
   have hst2:(⟨t.toArray⟩:ByteArray) ++ ⟨u.toArray⟩=⟨(Lib.decDigits (v4 (a.drop j))).toArray⟩:=by
    rw [HST.out,hu];apply ByteArray.ext;simp
   have HS2:=qh hst2
   have HB2:=qh (HB.out.trans (hb2.mono HB.out.size))
   have hlen:(Lib.decDigits (v4 (a.drop j))).length+4 * j≤4 * a.length:=by rw [HST.out,hu,List.length_append];omega
   have HLEN:=qh hlen
   have hu4:u.length≤4:=by omega
   clear hJ hb2 hu hst2 hlen k1 hpl
   dsimp only
   go_wp2_with fail
   go_roundw
   case rel=>exact ⟨j,_,by omega,by go_num,by rw [HS2.out],rfl,HLEN.out,HB2.out⟩
   case measure=>simp [intOf];try omega
theorem ref_ZText (w:World) (b:Bool) (A:Option Addr) (n c:Nat) (z:Int) (h:RZ4 w b A n c z) (hl:(d4 z.natAbs).length≤100000) (htl:(Lib.decDigits z.natAbs).length≤1000000) :
  Calls Tryz.prog 167 #[.agg #[.bool b,.slice A n c]] w fun e w'=>e=.returned (.string ⟨(Lib.itoa z).toArray⟩)∧Below w.heap.size w w':=by
 have HX:=qh h
 have hs:=h.sign
 have HL:=qh hl
 obtain ⟨t,ht⟩:∃ t,Lib.decDigits z.natAbs=t:=⟨_,rfl⟩
 rw [ht] at htl
 have HT:=qh ht
 have HI:Hid (Lib.itoa z=(if b then [45] else []) ++ t):=by
  show _=_
  rw [itoa_text,ht,hs]
  by_cases h:z<0 <;> simp [h]
 clear h hl ht hs
 cases b
 ·go_enter Tryz.func167,Tryz.ntmps167
  go_wp2_with fail
  refine calls_letter (fun w1=>Below w.heap.size w w1) ((Below.refl _ _).alloc ql _) ?_
  intro w1 hb
  have HB:=qh hb
  clear hb
  refine (ref_Text w1 A n c _ (HX.out.d4.bel HB.out) HL.out).mono ?_
  rw [HT.out]
  rintro e w2 ⟨rfl,hb2⟩
  have HB2:=qh (HB.out.trans (hb2.mono HB.out.size))
  clear hb2
  dsimp only
  go_wp2_with fail
  go_ret
  exact ⟨by rw [HI.out];rfl,HB2.out⟩
 ·go_enter Tryz.func167,Tryz.ntmps167
  go_wp2_with fail
  refine calls_letter (fun w1=>Below w.heap.size w w1) ((Below.refl _ _).alloc ql _) ?_
  intro w1 hb
  have HB:=qh hb
  clear hb
  refine (ref_Text w1 A n c _ (HX.out.d4.bel HB.out) HL.out).mono ?_
  rw [HT.out]
  rintro e w2 ⟨rfl,hb2⟩
  have HB2:=qh (HB.out.trans (hb2.mono HB.out.size))
  clear hb2
  dsimp only
  go_wp2_with fail
  go_ret
  exact ⟨by rw [HI.out];exact congrArg (fun x=>Ending.returned (Value.string x)) (ByteArray.ext (by simp)),HB2.out⟩
theorem ref_ZIntN (w:World) (z y:Int) (k:Nat) (hz:z+1=y) (hy:-y=(k:Int)) (hk:k<9223372036854775808) :
  Calls Tryz.prog 168 #[.int .i64 z] w fun e w'=>RetZ4 e w' z∧Below w.heap.size w w':=by
 have hI:z<0:=by omega
 have htu:(k:Int) % 18446744073709551616=(k:Int):=by omega
 have hy0:-9223372036854775808<y:=by omega
 have hy1:y≤0:=by omega
 have hz0:-9223372036854775808≤z:=by omega
 have HZ:Hid (z.natAbs=k+1):=by show _=_;omega
 go_enter Tryz.func168,Tryz.ntmps168
 go_wp2_with fail
 refine calls_letter (fun w1=>Blk w1 w.heap.size 171 [.bool false,.slice none 0 0]∧Below w.heap.size w w1) ⟨(Blk.made _ 171 _ _ _ (by simp) rfl),(Below.refl _ _).alloc ql _⟩ ?_
 rintro w1 ⟨b1,hb⟩
 have HB:=qh hb
 have H1:=qh b1
 clear hb b1
 refine (ref_Small w1 k (by omega)).mono ?_
 rintro e w2 ⟨⟨A2,n2,c2,rfl,hr2⟩,hb2⟩
 have HR2:=qh hr2
 have HB2:=qh hb2
 clear hr2 hb2
 dsimp only
 go_wp2_with fail
 refine (ref_Small w2 1 (by decide)).mono ?_
 rintro e w3 ⟨⟨A3,n3,c3,rfl,hr3⟩,hb3⟩
 have HR3:=qh hr3
 have HR2':=qh (HR2.out.bel hb3)
 have HB3:=qh (HB2.out.trans (hb3.mono HB2.out.size))
 clear hr3 hb3
 dsimp only
 go_wp2_with fail
 refine (ref_Add w3 A2 A3 n2 c2 n3 c3 k 1 HR2'.out HR3.out (le_of_le (d4_len (n:=5) (by omega))) (le_of_le (d4_len (n:=5) (by omega)))).mono ?_
 rintro e w4 ⟨⟨A4,n4,c4,rfl,hr4⟩,hb4⟩
 have hb14:=HB3.out.trans (hb4.mono HB3.out.size)
 have H2:=qh (H1.out.below hb14 H1.out.lt)
 obtain ⟨k0,k1⟩:=H2.out.c2
 have f0:=H2.out.frozen 0
 have f1:=H2.out.frozen 1
 have HR4:=qh hr4
 have HB4:=qh (HB.out.trans (hb14.mono HB.out.size))
 clear hr4 hb4 hb14
 dsimp only
 go_wp2_with fail
 have hf:=(H2.out.put 0 (.bool true)).put 1 (.slice A4 n4 c4)
 simp only [qqq0,qqq1] at hf
 have hd:=HR4.out.put2 H2.out (noI_z _ _ _ _) (.bool true) (.slice A4 n4 c4)
 have hb3:=below_set (below_set HB4.out w.heap.size 0 ql (.bool true)) w.heap.size 1 ql (.slice A4 n4 c4)
 obtain ⟨r0,r1⟩:=hf.c2
 generalize ((w4.setCell ⟨w.heap.size,0,none⟩ (.bool true)).setCell ⟨w.heap.size,1,none⟩ (.slice A4 n4 c4))=wf at *
 refine bodyPost_ret (v:=.agg #[.bool true,.slice A4 n4 c4]) (by simp [results,Tryz.results168,go_sem,r0,r1];try rfl) rfl ?_
 exact ⟨⟨_,_,_,_,rfl,by simp [hI],by rw [HZ.out];exact hd⟩,hb3⟩
theorem ref_ZIntZ (w:World) (z:Int) (h0:-9223372036854775808≤z) (h1:z≤9223372036854775807) :
  Calls Tryz.prog 168 #[.int .i64 z] w fun e w'=>RetZ4 e w' z∧Below w.heap.size w w':=by
 by_cases h:z<0
 ·exact ref_ZIntN w z (z+1) (-(z+1)).toNat rfl (by omega) (by omega)
 ·obtain ⟨n,rfl⟩:=Int.eq_ofNat_of_zero_le (show 0≤z by omega)
  exact ref_ZInt w n (by omega)
theorem ref_num (w:World) (z:Int) (h0:-9223372036854775808≤z) (h1:z≤9223372036854775807) :
  Calls Tryz.prog 107 #[.int .i64 z] w fun e w'=>e=.returned (.string ⟨(Lib.itoa z).toArray⟩)∧Below w.heap.size w w':=by
 have H0:=qh h0
 have H1:=qh h1
 clear h0 h1
 go_enter Tryz.func107,Tryz.ntmps107
 go_wp2_with fail
 refine (ref_ZIntZ w z H0.out H1.out).mono ?_
 rintro e w1 ⟨⟨b,A,n,c,rfl,hr⟩,hb⟩
 have HR:=qh hr
 have HB:=qh hb
 have hlt:z.natAbs<18446744073709551616:=by have:=H0.out;have:=H1.out;omega
 clear hr hb
 dsimp only
 go_wp2_with fail
 refine (ref_ZText w1 b A n c z HR.out (le_of_le (d4_len (n:=5) (by omega))) ?_).mono ?_
 ·have:=Lib.itoa_length_le z H0.out (by have:=H1.out;omega)
  rw [itoa_text,List.length_append] at this
  omega
 rintro e w2 ⟨rfl,hb2⟩
 have HB2:=qh (HB.out.trans (hb2.mono HB.out.size))
 clear hb2
 dsimp only
 go_wp2_with fail
 go_ret
 exact ⟨rfl,HB2.out⟩
theorem val_len4 {l:List Nat} (h:Wd l):(d4 (val l)).length≤3 * l.length:=by
 refine d4_len (Nat.lt_of_lt_of_le (val_lt l h) ?_)
 rw [Nat.pow_mul]
 exact Nat.pow_le_pow_left (by decide) _
theorem val_drop (l:List Nat) (i:Nat):val (l.drop i)=l.getD i 0+4294967296 * val (l.drop (i+1)):=by
 by_cases h:i<l.length
 ·rw [List.drop_eq_getElem_cons h,val,List.getD_eq_getElem?_getD,List.getElem?_eq_getElem h];rfl
 ·rw [List.drop_eq_nil_of_le (by omega),List.drop_eq_nil_of_le (by omega),List.getD_eq_getElem?_getD,List.getElem?_eq_none (by omega)];rfl
theorem wd_drop {l:List Nat} (h:Wd l) (i:Nat):Wd (l.drop i):=fun x hx=>h x (List.mem_of_mem_drop hx)
theorem d4_nil (w:World):D4 w none 0 0 0:=by
 refine ⟨?_,fun _=>rfl⟩
 rw [d4_zero]
 exact SlC.nil _ _ _ _
theorem ref_Words (w:World) (A:Option Addr) (n c:Nat) (l:List Nat) (h:RL w (.slice A n c) l) (hl:l.length≤1000) :
  Calls Tryz.prog 42 #[.slice A n c] w fun e w'=>RetD4 e w' (val l)∧Below w.heap.size w w':=by
 obtain ⟨A',c',e0,hc,hcell⟩:=h.form
 obtain ⟨rfl,rfl,rfl⟩:=Value.slice.inj e0
 have HW:=qh h.2
 have HC:Hid (∀ k,k<l.length→∃ b o,A=some ⟨b,o,none⟩∧w.cell? ⟨b,o+k,none⟩=some (.int .u32 (l.getD k 0:Nat))∧b<w.heap.size∧l.getD k 0<4294967296):=hcell
 have hlI:(l.length:Int)≤1000:=by omega
 clear h e0 hcell
 go_enter Tryz.func42,Tryz.ntmps42
 go_wp2_with fail
 refine (ref_Small w 4294967296 (by decide)).mono ?_
 rintro e w1 ⟨⟨A1,n1,c1,rfl,hd1⟩,hb1⟩
 have HD1:=qh hd1
 have HB1:=qh hb1
 clear hd1 hb1
 dsimp only
 go_wp2_with fail
 go_loopw [3,5] (fun v i wr=>∃ (j:Nat) (A2:Option Addr) (n2 c2:Nat),j≤l.length∧i=.int .i64 ((j:Int) - 1)∧v=.slice A2 n2 c2∧D4 wr A2 n2 c2 (val (l.drop j))∧Below w1.heap.size w1 wr) (fun _ i _=>(intOf i+1).toNat)
 case atStart=>exact ⟨l.length,none,0,0,ql,by go_num,rfl,by rw [List.drop_length];exact d4_nil _,Below.refl _ _⟩
 case round =>
  obtain ⟨j,A2,n2,c2,hj,rfl,rfl,hd2,hb2⟩:=hrel
  obtain ⟨wo,rfl⟩:∃ wo:World,wo=wr:=⟨_,rfl⟩
  have HD2:=qh hd2
  have HB2:=qh hb2
  clear hd2 hb2
  cases j with
  | zero =>
   have hI:¬ (0:Int)≤((0:Nat):Int) - 1:=by omega
   have HF:Hid (D4 wo A2 n2 c2 (val l)):=by have:=HD2.out;rw [List.drop_zero] at this;exact this
   clear HD2
   go_wp2_with fail
   go_ret
   exact ⟨⟨_,_,_,rfl,HF.out⟩,HB1.out.trans (HB2.out.mono HB1.out.size)⟩
  | succ j =>
   have e1:((j+1:Nat):Int) - 1=(j:Int):=by omega
   rw [e1]
   obtain ⟨b,o,rfl,hx,hlt,hx4⟩:=HC.out j (by omega)
   obtain ⟨x,hxe⟩:∃ x,l.getD j 0=x:=⟨_,rfl⟩
   rw [hxe] at hx hx4
   have HXE:=qh hxe
   have HBW:=qh (HB1.out.trans (HB2.out.mono HB1.out.size))
   have HK:Hid (∀ w',Below wo.heap.size wo w'→w'.cell? ⟨b,o+j,none⟩=some (.int .u32 (x:Int))∧Below wo.heap.size wo w'):=fun w' h=>⟨((HBW.out.trans (h.mono HBW.out.size)).cell (p:=⟨b,o+j,none⟩) hlt).trans hx,h⟩
   have hj0:(0:Int)≤(j:Int):=by omega
   have hjl:(j:Int)<(l.length:Int):=by omega
   have hxm:IntKind.u64.wrap (x:Int)=(x:Int):=IntWalk.u64_in _ ⟨by omega,by omega⟩
   have HD1':=qh (HD1.out.bel HB2.out)
   have HL1:Hid ((d4 (val (l.drop (j+1)))).length≤3000):=by
    have:=val_len4 (wd_drop HW.out (j+1))
    rw [List.length_drop] at this
    show _≤_
    omega
   have HSUM:Hid (val (l.drop (j+1)) * 4294967296+x=val (l.drop j)):=by
    show _=_
    rw [val_drop l j,HXE.out];omega
   clear hx hxe
   go_upto_region 6 with fail
   go_region_held3 (fun w'=>w'.cell? ⟨b,o+j,none⟩=some (.int .u32 (x:Int))∧Below wo.heap.size wo w')
    (first|exact HK.out _ (Below.refl _ _).drew|(go_split_ands;first|exact HK.out _ (Below.trans ‹Below wo.heap.size wo _› (hb3.mono (Below.size ‹Below wo.heap.size wo _›)))|exact HK.out _ (Below.trans ‹Below wo.heap.size wo _› (hb4.mono (Below.size ‹Below wo.heap.size wo _›)))|exact HK.out _ (Below.trans ‹Below wo.heap.size wo _› (hb5.mono (Below.size ‹Below wo.heap.size wo _›)))))
    (first|((with_reducible refine (ref_Mul _ A2 A1 n2 c2 n1 c1 (val (l.drop (j+1))) 4294967296 (HD2.out.below ?_ ql) (HD1'.out.below ?_ ql) (le_of_le HL1.out) (le_of_le (d4_len (n:=5) (by decide)))).mono ?_);(go_split_ands;assumption);(go_split_ands;assumption);rintro e w3 ⟨⟨A3,n3,c3,rfl,hr3⟩,hb3⟩)|((with_reducible refine (ref_Small _ x (by omega)).mono ?_);rintro e w4 ⟨⟨A4,n4,c4,rfl,hr4⟩,hb4⟩)|((with_reducible refine (ref_Add _ A3 A4 n3 c3 n4 c4 _ x (hr3.bel hb4) hr4 (le_of_le (le_of_le (d4_mul_len _ _) (Nat.add_le_add HL1.out (d4_len (n:=5) (by decide))))) (le_of_le (d4_len (n:=5) (by omega)))).mono ?_);rw [HSUM.out];rintro e w5 ⟨⟨A5,n5,c5,rfl,hr5⟩,hb5⟩))
   have hbf:Below wo.heap.size wo w5:=(by go_split_ands;assumption)
   have HR5:=qh hr5
   have HBF:=qh (HB2.out.trans (hbf.mono HB2.out.size))
   go_wp2_with fail
   go_roundw
   case rel=>exact ⟨j,_,_,_,by omega,by go_num,rfl,HR5.out,HBF.out⟩
   case measure=>simp [intOf];try omega
theorem ba_extract (l:Bs) (m n:Nat):(⟨l.toArray⟩:ByteArray).extract m n=⟨((l.drop m).take (n - m)).toArray⟩:=by
 apply ByteArray.ext
 simp [ByteArray.data_extract,List.extract_eq_take_drop]
theorem ba_tail (l:Bs) (m:Nat):(⟨l.toArray⟩:ByteArray).extract m l.length=⟨(l.drop m).toArray⟩:=by
 rw [ba_extract,List.take_of_length_le (by simp)]
def padL (t:Bs) (S:Nat):Bs:=List.replicate (S+1 - t.length) 48 ++ t
theorem padL_len (t:Bs) (S:Nat):S<(padL t S).length∧t.length≤(padL t S).length∧(padL t S).length≤t.length+S+1:=by
 unfold padL
 rw [List.length_append,List.length_replicate]
 omega
theorem ref_plain (w:World) (b:Bool) (A:Option Addr) (n c k S:Nat) (h:D4 w A n c k) (hl:(d4 k).length≤100000) (hS:S≤100000) (htl:(Lib.decDigits k).length≤1000000) :
  Calls Tryz.prog 211 #[.agg #[.bool b,.slice A n c,.int .i64 (S:Int)]] w fun e w'=>e=.returned (.string ⟨(padL (Lib.decDigits k) S).toArray⟩)∧Below w.heap.size w w':=by
 have HX:=qh h
 have L1:=qh hl
 obtain ⟨T,hT⟩:∃ T,Lib.decDigits k=T:=⟨_,rfl⟩
 rw [hT] at htl ⊢
 have HT:=qh hT
 clear h hl hT
 go_enter Tryz.func211,Tryz.ntmps211
 go_upto_region 1 with fail
 refine wp_letter (fun w1=>Blk w1 w.heap.size 68 [.bool b,.slice A n c,.int .i64 (S:Int)]∧Below w.heap.size w w1) ⟨Blk.made _ 68 _ _ _ (by simp) rfl,(Below.refl _ _).alloc ql _⟩ ?_
 rintro w1 ⟨b0,hb⟩
 have K0:=qh b0
 have HB:=qh hb
 obtain ⟨-,k1⟩:=b0.c2
 have hz:=b0.lt
 clear b0 hb
 go_wp2_with fail
 refine (ref_Text w1 A n c k (HX.out.bel HB.out) L1.out).mono ?_
 rw [HT.out]
 rintro e w2 ⟨rfl,hb2⟩
 have HB2:=qh hb2
 clear hb2 k1
 dsimp only
 go_wp2_with fail
 go_loopw [3] (fun s wr=>∃ (i:Nat) (t:Bs),s=.string ⟨t.toArray⟩∧t=List.replicate i 48 ++ T∧(i=0∨T.length+i≤S+1)∧Below w1.heap.size w1 wr) (fun s _=>S+1 - lenStr s)
 case atStart=>exact ⟨0,T,rfl,rfl,.inl rfl,HB2.out⟩
 case round =>
  obtain ⟨i,t,rfl,ht,hi,hb3⟩:=hrel
  have HTI:=qh ht
  have htlen:t.length=i+T.length:=by rw [ht];simp
  have HB3:=qh hb3
  obtain ⟨-,-,k2⟩:=(K0.out.below hb3 (by omega)).c3
  have htl2:t.length≤2000000:=by omega
  clear ht hb3
  by_cases hgo:t.length≤S
  ·have hI:(t.length:Int)≤(S:Int):=by omega
   have hst:(⟨#[48]⟩:ByteArray) ++ ⟨t.toArray⟩=⟨(List.replicate (i+1) 48 ++ T).toArray⟩:=by
    rw [HTI.out];apply ByteArray.ext;simp [List.replicate_succ]
   have HST:=qh hst
   have HLE:=qh htlen
   clear hst htlen
   go_wp2_with fail
   go_roundw
   case rel=>exact ⟨i+1,_,by rw [HST.out],rfl,by right;have:=HLE.out;omega,HB3.out⟩
   case measure=>simp [lenStr,ByteArray.size];omega
  ·have hI:¬ (t.length:Int)≤(S:Int):=by omega
   have hfin:t=padL T S:=by
    rw [HTI.out];unfold padL
    congr 2
    omega
   have HF:=qh hfin
   clear hfin
   go_wp2_with fail
   go_ret
   exact ⟨by rw [HF.out];rfl,HB.out.trans (HB3.out.mono HB.out.size)⟩
theorem ref_DPart (w:World) (b:Bool) (A:Option Addr) (n c k S:Nat) (h:D4 w A n c k) (hl:(d4 k).length≤100000) (hS:S≤100000) (htl:(Lib.decDigits k).length≤1000000) :
  Calls Tryz.prog 166 #[.agg #[.bool b,.slice A n c,.int .i64 (S:Int)]] w fun e w'=>e=.returned (.string ⟨(padD S k).toArray⟩)∧Below w.heap.size w w':=by
 have HX:=qh h
 have L1:=qh hl
 have L2:=qh htl
 obtain ⟨t,ht⟩:∃ t,padL (Lib.decDigits k) S=t:=⟨_,rfl⟩
 have hp:=padL_len (Lib.decDigits k) S
 rw [ht] at hp
 have hend:t.drop (t.length - S)=padD S k:=by
  have h1:k<10 ^ t.length:=by
   have h4:=Lib.decFrom_lt _ _ _ (decFrom_decDigits k)
   have h5:=Nat.pow_le_pow_right (n:=10) (by decide) hp.2.1
   simp at h4
   omega
  have h2:t=List.replicate (t.length - (Lib.decDigits k).length) 48 ++ Lib.decDigits k:=by
   conv=>lhs;rw [← ht]
   rw [← ht]
   unfold padL
   simp
  have h3:=tail_digits (S:=S) (L:=t.length) (by omega) h1 (by omega)
  rw [← h2] at h3
  exact h3
 have HT:=qh ht
 have HE:=qh hend
 have hs1:S≤t.length:=by omega
 have ht1:t.length≤2000000:=by omega
 obtain ⟨m,hm⟩:∃ m,t.length - S=m:=⟨_,rfl⟩
 have hmI:(t.length:Int) - (S:Int)=(m:Int):=by omega
 have hm0:(0:Int)≤(m:Int):=by omega
 have hm1:(m:Int)≤(t.length:Int):=by omega
 have HM:=qh hm
 clear h hl htl ht hp hend hm
 go_enter Tryz.func166,Tryz.ntmps166
 go_upto_region 1 with fail
 refine wp_letter (fun w1=>Blk w1 w.heap.size 68 [.bool b,.slice A n c,.int .i64 (S:Int)]∧Below w.heap.size w w1) ⟨Blk.made _ 68 _ _ _ (by simp) rfl,(Below.refl _ _).alloc ql _⟩ ?_
 rintro w1 ⟨b0,hb⟩
 have K0:=qh b0
 have HB:=qh hb
 obtain ⟨k0,k1,k2⟩:=b0.c3
 have hz:=b0.lt
 clear b0 hb
 go_wp2_with fail
 refine (ref_plain w1 b A n c k S (HX.out.bel HB.out) L1.out hS L2.out).mono ?_
 rw [HT.out]
 rintro e w2 ⟨rfl,hb2⟩
 have HB2:=qh (HB.out.trans (hb2.mono HB.out.size))
 clear k0 k1 k2
 obtain ⟨-,-,k2⟩:=(K0.out.below hb2 (by omega)).c3
 clear hb2
 dsimp only
 go_wp2_with fail
 go_ret
 exact ⟨by rw [← HE.out,HM.out,← ba_tail];rfl,HB2.out⟩
theorem ba_get (s:Bs) (k:Nat) (x:UInt8) (h:s[k]?=some x):∃ hk:k<(⟨s.toArray⟩:ByteArray).size,(⟨s.toArray⟩:ByteArray)[k]=x:=by
 obtain ⟨h1,h2⟩:=List.getElem?_eq_some_iff.1 h
 exact ⟨by simpa [ByteArray.size] using h1,by simpa [ByteArray.getElem_eq_getElem_data] using h2⟩
theorem byte_of (n:Nat) (h:n<256):(UInt8.ofNat n).toNat=n:=u8 n h
theorem dig_at {s:Bs} (hd:∀ b ∈ s,isDig b=true) {k:Nat} (h:k<s.length):∃ (d:Nat) (hk:k<(⟨s.toArray⟩:ByteArray).size),((⟨s.toArray⟩:ByteArray)[k]).toNat=d∧s[k]=UInt8.ofNat d∧48≤d∧d≤57:=by
 obtain ⟨hk,e⟩:=ba_get s k s[k] (List.getElem?_eq_getElem h)
 have hx:=hd s[k] (List.getElem_mem h)
 unfold isDig at hx
 have:=of_decide_eq_true hx
 exact ⟨s[k].toNat,hk,by rw [e],by simp,this.1,this.2⟩
theorem take_more {s:Bs} {f j:Nat} (hf:f≤j) (h:j<s.length):(s.drop f).take (j+1 - f)=(s.drop f).take (j - f) ++ [s[j]]:=by
 rw [show j+1 - f=(j - f)+1 by omega,List.take_add_one,List.getElem?_drop,show f+(j - f)=j by omega,List.getElem?_eq_getElem h]
 rfl
theorem ref_Parse (w:World) (s:Bs) (hd:∀ b ∈ s,isDig b=true) (hne:s≠[]) (hl:s.length≤100000) :
  Calls Tryz.prog 165 #[.string ⟨s.toArray⟩] w fun e w'=>(∃ A n c,e=.returned (.tuple #[.slice A n c,.bool true])∧D4 w' A n c (dv s))∧Below w.heap.size w w':=by
 have hse:s.isEmpty=false:=by cases s with
  | nil=>exact absurd rfl hne
  | cons a b=>rfl
 obtain ⟨i3,hi3,hz0,hz1,hz2⟩:=info_parts Tryz_info3'
 have hmx:=maxLen_ge
 have HD:=qh hd
 have hlI:(s.length:Int)≤100000:=by omega
 clear hd hne
 go_enter Tryz.func165,Tryz.ntmps165
 go_wp2_with fail
 go_loop [5] (fun i=>∃ k:Nat,k≤s.length∧i=.int .i64 (k:Int)) (fun i=>s.length - (intOf i).toNat)
 case atStart=>exact ⟨0,Nat.zero_le _,rfl⟩
 case round =>
  obtain ⟨k,hk,rfl⟩:=hrel
  by_cases hlt:k<s.length
  ·have hI:(k:Int)<(s.length:Int):=by omega
   have hk0:(0:Int)≤(k:Int):=by omega
   obtain ⟨d,hkk,hdx,-,h48,h57⟩:=dig_at HD.out hlt
   have h48I:¬ (d:Int)<48:=by omega
   have h57I:¬ 57<(d:Int):=by omega
   go_wp2_with fail
   go_round
   case rel=>exact ⟨k+1,by omega,by go_num⟩
   case measure=>simp [intOf];omega
  ·have hI:¬ (k:Int)<(s.length:Int):=by omega
   go_wp2_with fail
   go_loopw [4,6] (fun v e wr=>∃ (en:Int) (m:Nat) (acc:List Nat),e=.int .i64 en∧m=en.toNat∧-4≤en∧m≤s.length∧OwnN wr w.heap.size v acc∧W4 acc∧v4 acc=dv (s.drop m)∧(0<en→(s.drop m).length=4 * acc.length)∧acc.length≤s.length - m∧Below w.heap.size w wr) (fun _ e _=>(intOf e).toNat)
   case atStart=>exact ⟨s.length,s.length,[],by go_num,by omega,by omega,ql,World.ownsRow_nil _ _ _ _,(fun x hx=>by cases hx),by rw [List.drop_length];rfl,fun _=>by rw [List.drop_length];rfl,by simp,Below.refl _ _⟩
   case round =>
    obtain ⟨en,m,acc,rfl,hm,hen,hml,ho,hw4,hv,hlen,hal,hbb⟩:=hrel
    obtain ⟨wo,rfl⟩:∃ wo:World,wo=wr:=⟨_,rfl⟩
    have HO:=qh ho
    have HW:=qh hw4
    have HV:=qh hv
    have HLEN:=qh hlen
    have HBB:=qh hbb
    have hsz:=hbb.size
    clear ho hw4 hv hlen hbb
    by_cases hpos:0<en
    case neg =>
     obtain rfl:m=0:=by omega
     obtain ⟨VA,vc,hvf,hil,hno⟩:=HO.out.il
     have HNO:=qh hno
     subst hvf
     have HIL:=qh hil
     have HF:Hid (v4 acc=dv s):=by have:=HV.out;rw [List.drop_zero] at this;exact this
     clear hil hno hm HV
     go_wp2_with fail
     refine (ref_trimD wo VA acc.length vc acc HIL.out HNO.out HW.out (by omega)).mono ?_
     rw [HF.out]
     rintro e w1 ⟨⟨A1,n1,c1,rfl,hd1⟩,h1⟩
     subst w1
     have HD1:=qh hd1
     clear hd1
     dsimp only
     go_wp2_with fail
     go_ret2
     exact ⟨⟨A1,n1,c1,rfl,HD1.out⟩,HBB.out⟩
    obtain ⟨f,hf⟩:∃ f,m - 4=f:=⟨_,rfl⟩
    have hmI:en=(m:Int):=by omega
    subst hmI
    clear hm
    have hfm:f≤m:=by omega
    have hmf:m - f≤4:=by omega
    have hmsl:(m:Int)≤(s.length:Int):=by omega
    by_cases h4:m<4
    ·have hI4:(m:Int) - 4<0:=by omega
     have hf0:f=0:=by omega
     go_wp2_with fail
     go_loop [7,9] (fun nn i=>∃ j:Nat,f≤j∧j≤m∧i=.int .i64 (j:Int)∧nn=.int .i64 ((dv ((s.drop f).take (j - f)):Nat):Int)) (fun _ i=>m - (intOf i).toNat)
     case atStart=>exact ⟨f,ql,hfm,by rw [hf0];rfl,by rw [Nat.sub_self];rfl⟩
     case round =>
      obtain ⟨j,hfj,hjm,rfl,rfl⟩:=hrel
      have hdj:∀ b ∈ (s.drop f).take (j - f),isDig b=true:=fun b hb=>HD.out b (List.mem_of_mem_drop (List.mem_of_mem_take hb))
      have hnl:dv ((s.drop f).take (j - f))<10000:=by
       refine Nat.lt_of_lt_of_le (dv_lt hdj) ?_
       have h1:((s.drop f).take (j - f)).length≤4:=by rw [List.length_take];omega
       exact Nat.pow_le_pow_right (n:=10) (by decide) h1
      obtain ⟨x,hx⟩:∃ x,dv ((s.drop f).take (j - f))=x:=⟨_,rfl⟩
      rw [hx] at hnl ⊢
      have HX:=qh hx
      clear hx hdj
      by_cases hj:j<m
      ·have hjI:(j:Int)<(m:Int):=by omega
       have hj0:(0:Int)≤(j:Int):=by omega
       have hjs:(j:Int)<(s.length:Int):=by omega
       obtain ⟨d,hkk,hdx,hsj,h48,h57⟩:=dig_at HD.out (k:=j) (by omega)
       obtain ⟨y,hy⟩:∃ y,d - 48=y:=⟨_,rfl⟩
       obtain ⟨t,ht⟩:∃ t,10 * x=t:=⟨_,rfl⟩
       obtain ⟨r,hr⟩:∃ r,t+y=r:=⟨_,rfl⟩
       have hyI:(d:Int) - 48=(y:Int):=by omega
       have htI:(10:Int) * (x:Int)=(t:Int):=by omega
       have hrI:(t:Int)+(y:Int)=(r:Int):=by omega
       have hy9:y≤9:=by omega
       have ht9:t≤99990:=by omega
       have hr9:r≤99999:=by omega
       have hnext:dv ((s.drop f).take (j+1 - f))=r:=by
        rw [take_more hfj (by omega),dv_snoc,HX.out,hsj,byte_of d (by omega)]
        omega
       have HN:=qh hnext
       clear hnext hsj hy ht hr
       go_wp2_with fail
       go_round
       case rel=>exact ⟨j+1,by omega,by omega,by go_num,by rw [HN.out]⟩
       case measure=>simp [intOf];omega
      ·have hjI:¬ (j:Int)<(m:Int):=by omega
       obtain rfl:j=m:=by omega
       have hx4:x<10000:=hnl
       go_wp2_with (at_builtin;refine wpList_append_lies _ (by rfl) _ _ 66 (by rfl) w.heap.size 3 i3 (.int .i64 0) 1 8 Tryz.underlying66 hi3 hz0 hz1 hz2 rfl (by decide) u4 acc.length (nums acc) (by rfl) (World.ownsRow.alloc HO.out _) ⟨wo.heap.size,0,none⟩ 1 1 [.int .i64 (x:Int)] (by rfl) rfl (cell_one_new _ _ _) (by simp [Value.oneCell']) (by omega) (by omega) (by omega) (by simp;omega) (wo.heap.size+1) (by simp) ?_;intro g' cap' w1 hown hgrow hat hlt';have HO7:=qh hown;have HG7:=qh hgrow;clear hown hgrow hat)
       go_roundw
       case rel =>
        refine ⟨(j:Int) - 4,f,acc ++ [x],by go_num,by omega,by omega,by omega,ownN_push HO7.out,?_,?_,?_,by simp;omega,below_grown (HBB.out.alloc HBB.out.size _) HG7.out (Nat.le_trans HBB.out.size (by simp)) (fun i hi=>(World.ownsRow.lt HO.out i hi).1)⟩
        ·intro z hz
         rcases List.mem_append.1 hz with h|h
         ·exact HW.out z h
         ·obtain rfl:=List.mem_singleton.1 h;exact hx4
        ·have h1:s.drop f=(s.drop f).take (j - f) ++ s.drop j:=by
          conv=>lhs;rw [← List.take_append_drop (j - f) (s.drop f)]
          rw [List.drop_drop,show f+(j - f)=j by omega]
         rw [h1,dv_app,HX.out,HLEN.out (by omega),v4_app,HV.out]
         simp only [v4,Nat.mul_zero,Nat.add_zero]
         rw [Nat.pow_mul,Nat.add_comm,Nat.mul_comm x]
        ·intro h0
         have h2:=HLEN.out (by omega)
         rw [List.length_drop] at h2 ⊢
         simp
         omega
       case measure=>simp [intOf];omega
    ·have hI4:(m:Int) - 4=(f:Int):=by omega
     have hf0:¬ (f:Int)<0:=by omega
     go_wp2_with fail
     go_loop [7,9] (fun nn i=>∃ j:Nat,f≤j∧j≤m∧i=.int .i64 (j:Int)∧nn=.int .i64 ((dv ((s.drop f).take (j - f)):Nat):Int)) (fun _ i=>m - (intOf i).toNat)
     case atStart=>exact ⟨f,ql,hfm,rfl,by rw [Nat.sub_self];rfl⟩
     case round =>
      obtain ⟨j,hfj,hjm,rfl,rfl⟩:=hrel
      have hdj:∀ b ∈ (s.drop f).take (j - f),isDig b=true:=fun b hb=>HD.out b (List.mem_of_mem_drop (List.mem_of_mem_take hb))
      have hnl:dv ((s.drop f).take (j - f))<10000:=by
       refine Nat.lt_of_lt_of_le (dv_lt hdj) ?_
       have h1:((s.drop f).take (j - f)).length≤4:=by rw [List.length_take];omega
       exact Nat.pow_le_pow_right (n:=10) (by decide) h1
      obtain ⟨x,hx⟩:∃ x,dv ((s.drop f).take (j - f))=x:=⟨_,rfl⟩
      rw [hx] at hnl ⊢
      have HX:=qh hx
      clear hx hdj
      by_cases hj:j<m
      ·have hjI:(j:Int)<(m:Int):=by omega
       have hj0:(0:Int)≤(j:Int):=by omega
       have hjs:(j:Int)<(s.length:Int):=by omega
       obtain ⟨d,hkk,hdx,hsj,h48,h57⟩:=dig_at HD.out (k:=j) (by omega)
       obtain ⟨y,hy⟩:∃ y,d - 48=y:=⟨_,rfl⟩
       obtain ⟨t,ht⟩:∃ t,10 * x=t:=⟨_,rfl⟩
       obtain ⟨r,hr⟩:∃ r,t+y=r:=⟨_,rfl⟩
       have hyI:(d:Int) - 48=(y:Int):=by omega
       have htI:(10:Int) * (x:Int)=(t:Int):=by omega
       have hrI:(t:Int)+(y:Int)=(r:Int):=by omega
       have hy9:y≤9:=by omega
       have ht9:t≤99990:=by omega
       have hr9:r≤99999:=by omega
       have hnext:dv ((s.drop f).take (j+1 - f))=r:=by
        rw [take_more hfj (by omega),dv_snoc,HX.out,hsj,byte_of d (by omega)]
        omega
       have HN:=qh hnext
       clear hnext hsj hy ht hr
       go_wp2_with fail
       go_round
       case rel=>exact ⟨j+1,by omega,by omega,by go_num,by rw [HN.out]⟩
       case measure=>simp [intOf];omega
      ·have hjI:¬ (j:Int)<(m:Int):=by omega
       obtain rfl:j=m:=by omega
       have hx4:x<10000:=hnl
       go_wp2_with (at_builtin;refine wpList_append_lies _ (by rfl) _ _ 66 (by rfl) w.heap.size 3 i3 (.int .i64 0) 1 8 Tryz.underlying66 hi3 hz0 hz1 hz2 rfl (by decide) u4 acc.length (nums acc) (by rfl) (World.ownsRow.alloc HO.out _) ⟨wo.heap.size,0,none⟩ 1 1 [.int .i64 (x:Int)] (by rfl) rfl (cell_one_new _ _ _) (by simp [Value.oneCell']) (by omega) (by omega) (by omega) (by simp;omega) (wo.heap.size+1) (by simp) ?_;intro g' cap' w1 hown hgrow hat hlt';have HO7:=qh hown;have HG7:=qh hgrow;clear hown hgrow hat)
       go_roundw
       case rel =>
        refine ⟨(j:Int) - 4,f,acc ++ [x],by go_num,by omega,by omega,by omega,ownN_push HO7.out,?_,?_,?_,by simp;omega,below_grown (HBB.out.alloc HBB.out.size _) HG7.out (Nat.le_trans HBB.out.size (by simp)) (fun i hi=>(World.ownsRow.lt HO.out i hi).1)⟩
        ·intro z hz
         rcases List.mem_append.1 hz with h|h
         ·exact HW.out z h
         ·obtain rfl:=List.mem_singleton.1 h;exact hx4
        ·have h1:s.drop f=(s.drop f).take (j - f) ++ s.drop j:=by
          conv=>lhs;rw [← List.take_append_drop (j - f) (s.drop f)]
          rw [List.drop_drop,show f+(j - f)=j by omega]
         rw [h1,dv_app,HX.out,HLEN.out (by omega),v4_app,HV.out]
         simp only [v4,Nat.mul_zero,Nat.add_zero]
         rw [Nat.pow_mul,Nat.add_comm,Nat.mul_comm x]
        ·intro h0
         have h2:=HLEN.out (by omega)
         rw [List.length_drop] at h2 ⊢
         simp
         omega
       case measure=>simp [intOf];omega
end Go.Proofs.YtdgleeglndcjhaaGreatDoor
