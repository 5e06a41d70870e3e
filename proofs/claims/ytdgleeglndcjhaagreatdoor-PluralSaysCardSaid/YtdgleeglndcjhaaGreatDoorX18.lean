import Derived.Test.YtdgleeglndcjhaaGreatDoorX03
import Derived.Lib.Repeat
import Derived.Test.YtdgleeglndcjhaaGreatDoorX17
import Derived.Test.YtdgleeglndcjhaaGreatDoorX08
import Derived.Lib.LazyBuf
import Derived.Laws.BitsLemmas
import Derived.Lib.SmallJoins
set_option linter.unusedSimpArgs false
set_option linter.unusedVariables false
set_option maxHeartbeats 8000000
set_option maxRecDepth 100000
namespace Go.Proofs.YtdgleeglndcjhaaGreatDoor
def padD:Nat→Nat→Bs
 | 0,_=>[]
 | j+1,r=>padD j (r / 10) ++ [UInt8.ofNat (48+r % 10)]
theorem padD_len:∀ j r,(padD j r).length=j
 | 0,_=>rfl
 | j+1,r=>by simp [padD,padD_len j]
theorem decDigits_pad:∀ (j q r:Nat),0<q→r<10 ^ j→Lib.decDigits (q * 10 ^ j+r)=Lib.decDigits q ++ padD j r
 | 0,q,r,hq,hr=>by
  have:r=0:=by simpa using hr
  subst this;simp [padD]
 | j+1,q,r,hq,hr=>by
  have hp:10 ^ (j+1)=10 * 10 ^ j:=by rw [Nat.pow_succ,Nat.mul_comm]
  rw [hp] at hr
  have h10:10≤q * 10 ^ (j+1):=by
   have:1≤10 ^ j:=Nat.one_le_pow _ _ (by omega);rw [hp]
   calc 10=1 * (10 * 1):=by omega
    _≤q * (10 * 10 ^ j):=Nat.mul_le_mul hq (Nat.mul_le_mul_left _ this)
  rw [Lib.decDigits,dif_neg (by omega)]
  have e1:(q * 10 ^ (j+1)+r) / 10=q * 10 ^ j+r / 10:=by
   rw [hp,show q * (10 * 10 ^ j)=10 * (q * 10 ^ j) by rw [Nat.mul_left_comm]];omega
  have e2:(q * 10 ^ (j+1)+r) % 10=r % 10:=by
   rw [hp,show q * (10 * 10 ^ j)=10 * (q * 10 ^ j) by rw [Nat.mul_left_comm]];omega
  rw [e1,e2,decDigits_pad j q (r / 10) hq (by omega)];simp [padD]
theorem padD_zero:∀ j,padD j 0=List.replicate j 48
 | 0=>rfl
 | j+1=>by
  simp only [padD,Nat.zero_div,padD_zero j,Nat.zero_mod];rw [List.replicate_succ']
  rfl
theorem padD_eq:∀ (j r:Nat),r<10 ^ j→0<j→(Lib.decDigits r).length≤j∧padD j r=List.replicate (j - (Lib.decDigits r).length) 48 ++ Lib.decDigits r
 | j+1,r,hr,_=>by
  by_cases h:r<10
  ·rw [Lib.decDigits,dif_pos h];refine ⟨by simp,?_⟩;simp only [padD,Nat.div_eq_of_lt h,padD_zero,Nat.mod_eq_of_lt h,List.length_cons,List.length_nil]
   rfl
  ·have hp:10 ^ (j+1)=10 * 10 ^ j:=by rw [Nat.pow_succ,Nat.mul_comm]
   have hj:0<j:=by
    rcases Nat.eq_zero_or_pos j with h0|h0
    ·subst h0;simp at hr;omega
    ·exact h0
   obtain ⟨h1,h2⟩:=padD_eq j (r / 10) (by omega) hj;rw [Lib.decDigits,dif_neg h];refine ⟨by simp;exact h1,?_⟩;simp only [padD,h2,List.length_append,List.length_cons,List.length_nil];rw [show j+1 - ((Lib.decDigits (r / 10)).length+(0+1))=j - (Lib.decDigits (r / 10)).length by omega];simp
theorem repeat_zero (n:Nat):Lib.repeatL [48] n=List.replicate n 48:=by
 induction n with
 | zero=>rfl
 | succ n ih=>rw [List.replicate_succ];simp [Lib.repeatL,ih]
def chunk (k:Nat):Bs:=if 0<k / 1000000000 then List.replicate (9 - (Lib.decDigits (k % 1000000000)).length) 48 ++ Lib.decDigits (k % 1000000000) else Lib.decDigits (k % 1000000000)
theorem chunk_eq (k:Nat):Lib.decDigits k=(if 0<k / 1000000000 then Lib.decDigits (k / 1000000000) else []) ++ chunk k:=by
 unfold chunk;have hr:k % 1000000000<10 ^ 9:=by show _<1000000000;omega
 by_cases h:0<k / 1000000000
 ·rw [if_pos h,if_pos h,← (padD_eq 9 (k % 1000000000) hr (by omega)).2,← decDigits_pad 9 _ _ h hr]
  congr 1
  show k=k / 1000000000 * 1000000000+k % 1000000000;omega
 ·rw [if_neg h,if_neg h];simp
  congr 1
  omega
def TextI (k0 k:Nat) (L:List Bs):Prop:=(if 0<k then Lib.decDigits k else []) ++ L.reverse.flatten=Lib.decDigits k0
theorem TextI.step {k0 k:Nat} {L:List Bs} (hk:0<k) (h:TextI k0 k L):TextI k0 (k / 1000000000) (L ++ [chunk k]):=by
 unfold TextI at *
 rw [if_pos hk,chunk_eq k] at h;rw [← h];simp
theorem join_flatten:∀ ws:List Bs,Lib.join ws []=ws.flatten
 | []=>rfl
 | [x]=>by rw [Lib.join_one];simp
 | x :: y :: r=>by
  have:=join_flatten (y :: r);simp [Lib.join,List.intercalate] at *
  exact this
theorem TextI.fin {k0:Nat} {L:List Bs} (h:TextI k0 0 L):Lib.join L.reverse []=Lib.decDigits k0:=by
 rw [join_flatten];unfold TextI at h;simpa using h
theorem decFrom_padD:∀ (j r acc:Nat),r<10 ^ j→Lib.decFrom acc (padD j r)=some (acc * 10 ^ j+r)
 | 0,r,acc,h=>by
  have:r=0:=by simpa using h
  subst this;simp [padD,Lib.decFrom]
 | j+1,r,acc,h=>by
  have hp:10 ^ (j+1)=10 * 10 ^ j:=by rw [Nat.pow_succ,Nat.mul_comm]
  rw [hp] at h;simp only [padD];rw [decFrom_app _ _ _ _ (decFrom_padD j (r / 10) acc (by omega))];simp only [Lib.decFrom,digitVal_of (r % 10) (by omega)]
  congr 1
  rw [hp,show acc * (10 * 10 ^ j)=10 * (acc * 10 ^ j) by rw [Nat.mul_left_comm]];omega
end Go.Proofs.YtdgleeglndcjhaaGreatDoor
namespace Go.Proofs.YtdgleeglndcjhaaGreatDoor
open Go.RowKit
theorem nat_trim2 (w:World) (v:Value) (l:List Nat) (h:RL w v l) (hl:l.length≤1000000000) :
  Calls Tryz.prog 63 #[v] w fun e w'=>∃ v',e=.returned (.agg #[v'])∧RN w' v' (val l)∧Below w.heap.size w w'∧(∀ B,(∀ b,v.ownBlock=some b→B≤b)→∀ b,v'.ownBlock=some b→B≤b):=by
 have HR:=qh h;have HV:=qh (trimL_val l h.2);obtain ⟨A,c,rfl,hc,hcell⟩:=h.form;clear h;go_enter Tryz.func63,Tryz.ntmps63;go_wp2_with fail;go_loop [0] (fun s=>∃ k,k≤l.length∧s=.slice A k c∧trimL (l.take k)=trimL l) (fun s=>lenOf s)
 case atStart=>exact ⟨l.length,ql,rfl,by simp⟩
 case round =>
  obtain ⟨k,hk,rfl,hq⟩:=hrel;have Hq:=qh hq;clear hq;by_cases hk0:0<k
  ·obtain ⟨b,o,rfl,hx,hlt,hxb⟩:=hcell (k - 1) (by omega);obtain ⟨m,rfl⟩:∃ m,k=m+1:=⟨k - 1,by omega⟩;simp only [Nat.add_sub_cancel] at hx hxb;have hts:=take_succ_getD l m (by omega);generalize l.getD m 0=x at hx hts hxb;have Hts:=qh hts;clear hts hcell;by_cases hz:x=0
   ·subst hz
    go_wp2
    go_round
    case rel=>exact ⟨m,by omega,by go_num,by rw [← Hq.o,Hts.o,trimL_snoc0]⟩
    case measure=>simp [lenOf]
   ·have hz':((x:Int) == 0)=false:=by simpa using hz
    have Hz:=qh hz;clear hz
    go_wp2
    refine bodyPost_ret (v:=.agg #[.slice (some ⟨b,o,none⟩) (m+1) c]) (by simp [results,Tryz.results63,go_sem]) rfl ?_;refine ⟨_,rfl,?_,(Below.refl _ _).alloc ql _,fun B hB b hb=>hB b (by first|exact hb|(cases A <;> exact hb))⟩;unfold RN;rw [← HV.o,← Hq.o,Hts.o,trimL_snoc _ _ Hz.o,← Hts.o];exact (HR.o.take _ hk).below ((Below.refl w.heap.size _).alloc ql _) ql
  ·obtain rfl:k=0:=by omega
   go_wp2
   refine bodyPost_ret (v:=.agg #[.slice A 0 c]) (by simp [results,Tryz.results63,go_sem]) rfl ?_;refine ⟨_,rfl,?_,(Below.refl _ _).alloc ql _,fun B hB b hb=>hB b (by first|exact hb|(cases A <;> exact hb))⟩;unfold RN;rw [← HV.o,← Hq.o];exact (HR.o.take 0 hk).below ((Below.refl w.heap.size _).alloc ql _) ql
theorem nat_small2 (w:World) (v:Value) (l:List Nat) (d:Nat) (h:RL w v l) (hl:l.length≤100000000) (hd0:0<d) (hd:d<4294967296) :
  Calls Tryz.prog 133 #[v,.int .u32 d] w fun e w'=>∃ v' out,e=.returned (.tuple #[v',.int .u32 (val l % d:Nat)])∧RL w' v' out∧val out=val l / d∧out.length=l.length∧Below w.heap.size w w'∧∀ b,v'.ownBlock=some b→w.heap.size≤b:=by
 obtain ⟨i0,hi,hz0,hz1,hz2⟩:=info_parts Tryz_info43;have HX:=qh h;obtain ⟨A,c,rfl,hc,hcell⟩:=h.form;generalize hn:l.length=n at *
 have Hn:=qh hn;clear h hn;go_enter Tryz.func133,Tryz.ntmps133;go_wp2_with (at_make;go_loud (refine wpList_make_blk _ rfl (.tmp 10) (.tmp 10) 22 rfl 43 i0 (.int .u32 0) Tryz.underlying22 hi hz0 hz1 rfl .i64 .i64 _ _ n rfl rfl rfl rfl (by rw [hz2];omega) (by unfold maxLen;omega) ?_))
 go_wp2_with fail
 go_loopw [7,8] (fun s7 s8 wr=>∃ (k rest:Nat) (suf:List Nat),s8=.int .i64 ((k:Int) - 1)∧s7=.int .u64 rest∧k≤n∧rest<d∧suf.length=n - k∧Wd suf ∧
   val suf=val (l.drop k) / d∧rest=val (l.drop k) % d ∧
   Blk wr w.heap.size 43 (U32 (List.replicate k 0 ++ suf))∧Below w.heap.size w wr) (fun _ i _=>(intOf i+1).toNat)
 case atStart =>
  refine ⟨n,0,[],by go_num,rfl,by omega,hd0,by simp,Wd.nil,by simp [val,← Hn.o],by simp [val,← Hn.o],?_,(Below.refl _ _).alloc ql _⟩;exact Blk.made _ 43 _ _ _ rfl (by simp [U32])
 case round =>
  obtain ⟨k,rest,suf,rfl,rfl,hk,hrd,hsl,hsw,hv1,hv2,B3,hbw⟩:=hrel;have Hsl:=qh hsl;clear hsl;by_cases hk0:0<k
  ·obtain ⟨m,rfl⟩:∃ m,k=m+1:=⟨k - 1,by omega⟩;rw [show (((m+1:Nat):Int) - 1)=(m:Int) by omega];obtain ⟨b,o,rfl,hx,hlt,hxb⟩:=hcell m (by omega);rw [← hbw.cell (p:=⟨b,o+m,none⟩) hlt] at hx;obtain ⟨hq,hr1,hr2⟩:=small_round (k:=m) hd0 hd hrd (by rw [Hn.o];omega) hxb hv1 hv2;have hor:=u64_or32 rest (l.getD m 0) (by omega) hxb;have hmod:=Nat.mod_lt (rest * 4294967296+l.getD m 0) hd0;have hsum:rest * 4294967296+l.getD m 0<18446744073709551616:=by omega
   generalize l.getD m 0=x at *
   generalize hs:rest * 4294967296+x=s at *
   have Hr1:=qh hr1;have Hr2:=qh hr2;have Hs:=qh hs;have HB3:=qh B3;have HBw:=qh hbw;have hc3:=(B3.cell m).trans (U32_get _ m (by simp [Hsl.o];omega));have hf3:=B3.frozen m;obtain ⟨q,hqe⟩:∃ q,q=s / d:=⟨_,rfl⟩;obtain ⟨r,hre⟩:∃ r,r=s % d:=⟨_,rfl⟩;rw [← hqe] at hq;rw [← hre] at hmod;have hdv:(s:Int) / (d:Int)=(q:Int):=by rw [hqe,Int.natCast_ediv]
   have hmd:(s:Int) % (d:Int)=(r:Int):=by rw [hre,Int.natCast_emod]
   have Hqe:=qh hqe;have Hre:=qh hre;clear hr1 hr2 hs B3 hbw hcell hv1 hv2 hqe hre;go_wp2_with fail;refine ⟨⟨m,r,q :: suf,rfl,by rw [hmd],by omega,hmod,by rw [List.length_cons,Hsl.o];omega,fun z hz=>by rcases List.mem_cons.1 hz with rfl|hz;exact hq;exact hsw z hz,by rw [Hqe.o,← Hr1.o],by rw [Hre.o,Hr2.o],?_,?_⟩,by simp [intOf]⟩
   ·have h:=HB3.o.put m (.int .u32 (q:Int));rw [U32_set,List.replicate_succ',List.append_assoc,List.singleton_append,set_mid _ _ _ _ _ (by simp),List.append_assoc,List.singleton_append] at h;exact h
   ·exact HBw.o.setCell (by simp) _
  ·obtain rfl:k=0:=by omega
   rw [List.replicate_zero,List.nil_append] at B3;rw [List.drop_zero] at hv1 hv2;have Hv1:=qh hv1;have Hv2:=qh hv2;have HRL:=qh (RL_blk B3 hsw n (by rw [Hsl.o];omega));have HBw:=qh hbw;have hr':(rest:Int)<4294967296:=by omega
   clear B3 hbw hcell hv1 hv2
   go_wp2
   go_ret2
   refine ⟨_,suf,?_,HRL.o,Hv1.o,by rw [Hsl.o];omega,HBw.o,fun b hb=>by cases hb;exact ql⟩;rw [← Hv2.o]
   rfl
theorem str_reverse (w:World) (B g cap:Nat) (L:List Bs) (h:OwnS w B (.slice (some ⟨g,0,none⟩) L.length cap) L) (hl:L.length≤1000000) :
  Calls Tryz.prog 193 #[.slice (some ⟨g,0,none⟩) L.length cap] w fun e w'=>e=.returned (.tuple #[])∧StrsAre w' (some ⟨g,0,none⟩) L.length cap L.reverse∧∀ W,Below B W w→Below B W w':=by
 have hB:B≤g:=(World.ownsRow.lt h g rfl).1
 have hcell:∀ i,i<L.length→w.cell? ⟨g,0+i,none⟩=some (.string ⟨(L.getD i []).toArray⟩):=fun i hi=>by
  rw [Nat.zero_add,World.ownsRow.cellAt h i (by omega)];simp [strs,List.getElem?_eq_getElem hi,List.getD_eq_getElem?_getD]
 refine (Tryz.slices_Reverse_string_cells g 0 L.length cap (fun i=>⟨(L.getD i []).toArray⟩) w (by omega) hcell (fun j hj=>by rw [Nat.zero_add];exact World.ownsRow.frozenAt h j)).mono ?_;rintro e w' ⟨rfl,q,rfl⟩
 have hs:(Lib.strsOf (fun i=>(⟨(L.getD i []).toArray⟩:ByteArray)) L.length)=L:=by
  apply List.ext_getElem
  ·simp [Lib.strsOf]
  ·intro i h1 h2;simp [Lib.strsOf,List.getD_eq_getElem?_getD,List.getElem?_eq_getElem h2]
 rw [hs];refine ⟨rfl,⟨_,cap,by simp,by rw [List.length_reverse];exact StrsAre.cap (ws:=L) (SlC.own h),by simp,fun hp=>⟨g,0,rfl,fun j x hx=>?_⟩⟩,fun W hW=>?_⟩
 ·have hj:j<L.reverse.length:=by
   have:=(List.getElem?_eq_some_iff.1 hx).1;simpa using this
  have:=World.cell?_setCells_in g (L.reverse.map encStr) 0 (w.drewN q) (fun i hi=>by
   rw [show (w.drewN q).cell? ⟨g,0+i,none⟩=w.cell? ⟨g,0+i,none⟩ from rfl,hcell i (by simpa using hi)];rfl) j (by simpa using hj)
  rw [this];rw [List.getElem?_map,List.getElem?_eq_getElem hj] at hx;rw [List.getElem_map];exact hx
 ·exact below_setCells hB _ _ _ (below_drewN hW q)
theorem sn_grown {w w':World} {A:Option Addr} {n c k B:Nat} {row:Option Nat} (h:SN w A n c k) (hg:w.grownBy w' row) (hb:∀ b,Value.ownBlock (.slice A n c)=some b→B≤b) (hr:∀ j,row=some j→j<B):SN w' A n c k:=by
 obtain ⟨⟨A',c',h1,h2,h3,h4⟩,hw⟩:=h;refine ⟨⟨A',c',h1,h2,h3,fun hp=>?_⟩,hw⟩;obtain ⟨b,o,h5,h6⟩:=h4 hp;refine ⟨b,o,h5,fun j x hx=>?_⟩;have h7:=h6 j x hx;have hlt:b<w.heap.size:=World.block_lt_of_cell? w _ h7;obtain ⟨rfl,-,-⟩:=Value.slice.inj h1;have hBb:=hb b (by rw [h5];rfl);rw [← h7];unfold World.cell?;rw [hg.block b hlt (fun e=>by have:=hr b e.symm;omega)]
def TextW (W:World) (k0 m G:Nat) (v3 v4:Value) (wr:World):Prop :=
 ∃ A n c L,v3=.slice A n c∧SN wr A n c G∧OwnS wr W.heap.size v4 L∧TextI k0 G L∧G<2 ^ (m - L.length)∧L.length≤m∧Below W.heap.size W wr
theorem text_lt {g m:Nat} {L:List Bs} {x:Bs} (h0:0<g) (h:g<2 ^ (m - L.length)):g / 1000000000<2 ^ (m - (L ++ [x]).length):=by
 rw [List.length_append,List.length_singleton];rcases Nat.eq_zero_or_pos (m - L.length) with h1|h1
 ·rw [h1] at h;simp at h;omega
 ·rw [show m - L.length=(m - (L.length+1))+1 by omega,Nat.pow_succ] at h;omega
theorem text_le {g m:Nat} {L:List Bs} {x:Bs} (h0:0<g) (h:g<2 ^ (m - L.length)) (hL:L.length≤m):(L ++ [x]).length≤m:=by
 rw [List.length_append,List.length_singleton];rcases Nat.eq_zero_or_pos (m - L.length) with h1|h1
 ·rw [h1] at h;simp at h;omega
 ·omega
theorem wordsOf_len_pos {k:Nat} (h:0<k):0<(wordsOf k).length:=by
 rw [wordsOf_pos (by omega)];simp
theorem nat_Text (w:World) (A:Option Addr) (n c k m:Nat) (hG:GW w) (h:SN w A n c k) (hk:k<2 ^ m) (hm:m≤100000) :
  Calls Tryz.prog 130 #[.agg #[.slice A n c]] w fun e w'=>e=.returned (.string ⟨(Lib.decDigits k).toArray⟩)∧Below w.heap.size w w':=by
 have HG:=qh hG;have HX:=qh h;have HK:=qh hk;have HBig:=qh (big_pow hk (by omega));obtain ⟨i9,hi9,hz90,hz91,hz92⟩:=info_parts Tryz_info9;clear hG h hk;go_enter Tryz.func130,Tryz.ntmps130;go_upto_region 1 with fail;refine wp_letter (fun w1=>Blk w1 w.heap.size 24 [.slice A n c]∧Below w.heap.size w w1) ⟨Blk.made _ 24 _ _ _ rfl rfl,(Below.refl _ _).alloc ql _⟩ ?_;rintro w1 ⟨b0,hb⟩;have HB:=qh hb;have HX1:=qh (HX.o.below hb ql);have k0:=b0.c1;clear b0 hb;go_wp2_with fail;refine (nat_trim w1 (.slice A n c) (wordsOf k) HX1.o (Nat.le_trans HBig.o (by omega))).mono ?_;rintro e w2 ⟨v2,rfl,hr2,hb2⟩;obtain ⟨A2,n2,c2,rfl,hs2⟩:=hr2.sn;rw [val_wordsOf] at hs2;have HS2:=qh hs2;have HB2:=qt HB hb2;have hlen:=hs2.len;clear hr2 hs2 hb2 k0;dsimp only;by_cases hk0:k=0
 ·subst hk0;obtain rfl:n2=0:=by rw [hlen,wordsOf_zero];rfl
  clear hlen;go_wp2_with fail;go_ret
  refine ⟨?_,HB2.o⟩;rw [Lib.decDigits_one (by omega)];rfl
 ·have hnp:0<n2:=by rw [hlen];exact wordsOf_len_pos (by omega)
  have hnI:((n2:Int) == 0)=false:=by rw [beq_eq_false_iff_ne];omega
  have hnd:decide (n2=0)=false:=by simp;omega
  have hn2I:(n2:Int)≤1000000:=by have:=HBig.o;unfold Big at this;omega
  clear hlen;obtain ⟨W0,hW0⟩:∃ x:World,x=w2:=⟨_,rfl⟩;have HW0:=qh hW0;rw [← hW0] at HB2 HS2;have HG2:=qh (HG.o.below HB2.o ql);subst hW0;go_upto_region 5 with fail;go_loopg [3,4] k (fun G v3 v4 wr=>TextW W0 k m G v3 v4 wr)
  case atStart=>exact ⟨A2,n2,c2,[],rfl,HS2.o,World.ownsRow_nil _ _ _ _,by unfold TextI;rw [if_pos (by omega)];simp,by simpa using HK.o,by simp,Below.refl _ _⟩
  case round =>
   obtain ⟨A3,n3,c3,L,rfl,hs,ho,ht,hg2,hLm,hb⟩:=hrel;have HS:=qh hs;have HO:=qh ho;have HT:=qh ht;have HQ:=qh hg2;have HBR:=qh hb;have hlen:=hs.len;have HBigG:=qh (big_pow (Nat.lt_of_lt_of_le hg2 (Nat.pow_le_pow_right (by omega) (by omega:m - L.length≤m))) (by omega));clear hs ho ht hg2 hb;by_cases hg0:gk=0
   ·subst hg0;obtain rfl:n3=0:=by rw [hlen,wordsOf_zero];rfl
    clear hlen
    have HL0:Hid (0<L.length):=by
     show 0<L.length;rcases Nat.eq_zero_or_pos L.length with h0|h0
     ·have h1:=HT.o;rw [List.length_eq_zero_iff.1 h0] at h1;unfold TextI at h1;have h2:=decDigits_ne k;simp at h1;exact absurd h1 h2
     ·exact h0
    obtain ⟨g4,cap4,rfl,-,-⟩:=World.ownsRow.form HO.o HL0.o;go_wp2_with fail;refine (str_reverse wr W0.heap.size g4 cap4 L HO.o (by omega)).mono ?_;rintro e w5 ⟨rfl,hst,hb5⟩;have HST:=qh hst;have HB5:=qh (hb5 _ HBR.o);clear hst hb5;dsimp only;go_wp2_with fail;have hfin:=TextI.fin HT.o;have HF:=qh hfin;clear hfin;refine (str_join w5 _ _ _ L.reverse ⟨#[]⟩ HST.o (by simp;omega) (by show (Lib.join L.reverse []).length≤_;rw [HF.o];exact Nat.le_trans (padD_eq (m+1) k (Nat.lt_of_lt_of_le HK.o (Nat.le_trans (Nat.pow_le_pow_left (by omega) m) (Nat.pow_le_pow_right (by omega) (by omega)))) (by omega)).1 (by omega))).mono ?_;rintro e w6 ⟨rfl,hb6⟩;have HB6:=qh (HB2.o.trans ((HB5.o.trans (hb6.mono HB5.o.size)).mono HB2.o.size));clear hb6;rw [show Lib.join L.reverse (⟨#[]⟩:ByteArray).data.toList=Lib.decDigits k from HF.o];dsimp only;obtain ⟨Z,hZ⟩:∃ Z,Z=Lib.decDigits k:=⟨_,rfl⟩;rw [← hZ];have HZ:=qh hZ;clear hZ;go_wp2_with fail;go_ret
    exact ⟨by simpa using HZ.o,HB6.o⟩
   ·have hG0:0<gk:=by omega
    have hn3:0<n3:=by rw [hlen];exact wordsOf_len_pos (by omega)
    have hn3I:(0:Int)<(n3:Int):=by omega
    have hn3J:(n3:Int)≤1000000:=by have:=HBigG.o;unfold Big at this;omega
    clear hlen;have HGW:=qh (HG2.o.below HBR.o ql);go_wp2_with fail;refine (nat_small2 wr (.slice A3 n3 c3) (wordsOf gk) 1000000000 HS.o (Nat.le_trans HBigG.o (by omega)) (by omega) (by omega)).mono ?_;rw [val_wordsOf];rintro e w5 ⟨v5,out,rfl,hr5,hv5,hl5,hb5,hn5⟩;have HR5:=qh hr5;have HV5:=qh hv5;have HL5:=qh hl5;have HB5:=qh hb5;have H5S:=hb5.size;obtain ⟨q5,hq5⟩:∃ q,q=gk % 1000000000:=⟨_,rfl⟩;rw [← hq5];have hq5l:q5<1000000000:=by omega
    have HQ5:=qh hq5;clear hr5 hv5 hl5 hb5 hq5;dsimp only;go_wp2_with fail;refine (nat_trim2 w5 v5 out HR5.o (by rw [HL5.o];have:=HBigG.o;unfold Big at this;omega)).mono ?_;rw [HV5.o];rintro e w6 ⟨v6,rfl,hr6,hb6,hn6⟩;have hn7:=hn6 _ hn5;obtain ⟨A6,n6,c6,rfl,hs6⟩:=hr6.sn;have HN7:=qh hn7;clear hn5 hn6 hn7;have HS6:=qh hs6;have HB6:=qt HB5 hb6;have HLEN6:=qh hs6.len;clear hr6 hs6 hb6;dsimp only;have hqI:(q5:Int)<1000000000:=by omega
    go_wp2_with fail;refine (str_itoa w6 (q5:Int) (HGW.o.below HB6.o ql) (by omega) (by omega)).mono ?_;rw [itoa_nat];rintro e w7 ⟨rfl,hb7⟩;have HB7:=qt HB6 hb7;have HS7:=qh (HS6.o.below hb7 ql);have hd9:=decDigits_len q5 hq5l;generalize hD:Lib.decDigits q5=D at *
    have HD:=qh hD.symm;clear hb7 hD;dsimp only;have hmx:=maxLen_ge;have hLl:L.length≤100000:=by omega
    by_cases hq0:0<gk / 1000000000
    ·have hn6:0<n6:=by rw [HLEN6.o];exact wordsOf_len_pos hq0
     have hn6I:(0:Int)<(n6:Int):=by omega
     have hD9:(D.length:Int)≤9:=by omega
     go_wp2_with fail;rw [show (9 - (D.length:Int))=((9 - D.length:Nat):Int) by omega];refine (Tryz.strings_Repeat ⟨#[48]⟩ (9 - D.length) w7 (by omega) (by show 1 * (9 - D.length)≤_;omega)).mono ?_;rw [show (⟨#[48]⟩:ByteArray).data.toList=[48] from rfl,repeat_zero];rintro e w9 ⟨rfl,hb9⟩;have HB9:=qt HB7 hb9;have HS9:=qh (HS7.o.below hb9 ql);have hrl:(List.replicate (9 - D.length) (48:UInt8)).length≤9:=by simp
     generalize hR:List.replicate (9 - D.length) (48:UInt8)=R at *
     have HR':=qh hR.symm;clear hb9 hR HB7 HS7;have HB7:=HB9;have HS7:=HS9;have HCH:Hid (R ++ D=chunk gk):=by have h1:=HD.o;have h2:=HR'.o;show R ++ D=chunk gk;unfold chunk;rw [if_pos hq0,← HQ5.o,← h1,← h2]
     have O7:=qh (own_kept_below HO.o (HB7.o));have HBZ:=qh (HBR.o.trans (HB7.o.mono HBR.o.size));dsimp only;have HQ0:=qh hq0;generalize 9 - D.length=N9;clear hq0 hn6 hn6I hD9;have hsum:R.length+D.length≤18:=by omega
     clear hrl hd9 hq5l hqI H5S;obtain ⟨WX,hWX⟩:∃ x:World,x=w9:=⟨_,rfl⟩;subst hWX;go_wp2_with (at_builtin;go_loud (refine wpList_append_lies _ (by rfl) (.tmp 38) (.tmp 40) 54 (by rfl) W0.heap.size 9 i9 (.string ByteArray.empty) 1 16 Tryz.underlying54 hi9 hz90 hz91 hz92 rfl (by decide) _ L.length (strs L) (by rfl) (World.ownsRow.alloc O7.o _) ⟨WX.heap.size,0,none⟩ 1 1 [.string (⟨R.toArray⟩ ++ ⟨D.toArray⟩)] (by rfl) rfl (cell_one_new _ _ _) (by simp [Value.oneCell']) (by omega) (by omega) (by omega) (by have:=HBZ.o.size;simp;omega) (WX.heap.size+1) (by simp) ?_);intro g1 cap1 w8 hown hgrow hat hlt7;rw [ba_app] at hown;have HO8:=qh hown;have HG8:=qh hgrow;clear hown hgrow hat)
     go_roundg (gk / 1000000000)
     case rel =>
      exact ⟨A6,_,c6,L ++ [R ++ D],rfl,sn_grown (HS7.o.below ((Below.refl _ _).alloc ql _) ql) HG8.o HN7.o (fun j hj=>(World.ownsRow.lt HO.o j hj).2),ownS_push HO8.o,by rw [HCH.o];exact HT.o.step (by omega),text_lt hG0 HQ.o,text_le hG0 HQ.o hLm,below_grown (HBZ.o.alloc HBZ.o.size _) HG8.o (by have:=HBZ.o.size;simp;omega) (fun j hj=>(World.ownsRow.lt O7.o j hj).1)⟩
     case measure=>have:=HQ0.o;omega
    ·have hn6:n6=0:=by rw [HLEN6.o,show gk / 1000000000=0 by omega,wordsOf_zero];rfl
     subst hn6;have HCH:Hid (D=chunk gk):=by have:=HD.o;rw [HQ5.o] at this;show D=chunk gk;unfold chunk;rw [if_neg hq0];exact this
     have O7:=qh (own_kept_below HO.o (HB7.o));have HBZ:=qh (HBR.o.trans (HB7.o.mono HBR.o.size));obtain ⟨WX,hWX⟩:∃ x:World,x=w7:=⟨_,rfl⟩;subst hWX;go_wp2_with (at_builtin;go_loud (refine wpList_append_lies _ (by rfl) (.tmp 38) (.tmp 40) 54 (by rfl) W0.heap.size 9 i9 (.string ByteArray.empty) 1 16 Tryz.underlying54 hi9 hz90 hz91 hz92 rfl (by decide) _ L.length (strs L) (by rfl) (World.ownsRow.alloc O7.o _) ⟨WX.heap.size,0,none⟩ 1 1 [.string ⟨D.toArray⟩] (by rfl) rfl (cell_one_new _ _ _) (by simp [Value.oneCell']) (by omega) (by omega) (by omega) (by have:=HBZ.o.size;simp;omega) (WX.heap.size+1) (by simp) ?_);intro g1 cap1 w8 hown hgrow hat hlt7;have HO8:=qh hown;have HG8:=qh hgrow;clear hown hgrow hat)
     go_roundg (gk / 1000000000)
     case rel =>
      exact ⟨A6,_,c6,L ++ [D],rfl,sn_grown (HS7.o.below ((Below.refl _ _).alloc ql _) ql) HG8.o HN7.o (fun j hj=>(World.ownsRow.lt HO.o j hj).2),ownS_push HO8.o,by rw [HCH.o];exact HT.o.step (by omega),text_lt hG0 HQ.o,text_le hG0 HQ.o hLm,below_grown (HBZ.o.alloc HBZ.o.size _) HG8.o (by have:=HBZ.o.size;simp;omega) (fun j hj=>(World.ownsRow.lt O7.o j hj).1)⟩
     case measure=>omega
end Go.Proofs.YtdgleeglndcjhaaGreatDoor
namespace Go.Proofs.YtdgleeglndcjhaaGreatDoor
open Go.RowKit
theorem digit_of {b:UInt8} (h:isDig b=true):∃ d,d<10∧Lib.digitVal b=some d∧(48≤b.toNat∧b.toNat≤57)∧d=b.toNat - 48:=by
 have h':48≤b.toNat∧b.toNat≤57:=by unfold isDig at h;simpa using h
 exact ⟨b.toNat - 48,by omega,by unfold Lib.digitVal;rw [if_pos h'],h',rfl⟩
theorem decFrom_all:∀ l:Bs,(∀ b ∈ l,isDig b=true)→∃ m,m<10 ^ l.length∧∀ acc,Lib.decFrom acc l=some (acc * 10 ^ l.length+m)
 | [],_=>⟨0,by simp,fun acc=>by simp [Lib.decFrom]⟩
 | b :: l,h=>by
  obtain ⟨d,hd,hv,-⟩:=digit_of (h b (by simp));obtain ⟨m,hm,hl⟩:=decFrom_all l (fun b hb=>h b (List.mem_cons_of_mem _ hb));have hp:10 ^ (b :: l).length=10 * 10 ^ l.length:=by rw [List.length_cons,Nat.pow_succ,Nat.mul_comm]
  have hd':d * 10 ^ l.length≤9 * 10 ^ l.length:=Nat.mul_le_mul_right _ (by omega);refine ⟨d * 10 ^ l.length+m,by rw [hp];omega,fun acc=>?_⟩;simp only [Lib.decFrom,hv,hl]
  congr 1
  rw [hp,Nat.add_mul,← Nat.mul_assoc,Nat.mul_assoc acc 10];grind
theorem dec_le:∀ (l:Bs) (acc n:Nat),Lib.decFrom acc l=some n→acc≤n
 | [],acc,n,h=>by simp [Lib.decFrom] at h;omega
 | b :: l,acc,n,h=>by
  simp only [Lib.decFrom] at h;cases hd:Lib.digitVal b with
  | none=>rw [hd] at h;cases h
  | some d=>rw [hd] at h;have:=dec_le l _ _ h;omega
theorem parseUintM_ok (M:Nat) (hM:M≤4294967295):∀ (l:Bs) (acc n:Nat),(∀ b ∈ l,isDig b=true)→Lib.decFrom acc l=some n→n≤M→Lib.parseUintM M acc l=.ok n
 | [],acc,n,_,h,_=>by simp [Lib.decFrom] at h;subst h;rfl
 | b :: l,acc,n,hdig,h,hn=>by
  obtain ⟨d,hd,hv,hb,he⟩:=digit_of (hdig b (by simp));simp only [Lib.decFrom,hv] at h;have h1:=dec_le l _ _ h;rw [he] at h h1;unfold Lib.parseUintM;rw [if_pos hb,if_neg (by omega),if_neg (by omega)];exact parseUintM_ok M hM l _ n (fun b hb=>hdig b (List.mem_cons_of_mem _ hb)) h hn
theorem parseUint_ok {l:Bs} {n:Nat} (h0:l≠[]) (hd:∀ b ∈ l,isDig b=true) (h:Lib.decFrom 0 l=some n) (hn:n<1000000000):Lib.parseUintB 32 l=.ok n:=by
 unfold Lib.parseUintB;rw [if_neg h0];exact parseUintM_ok _ (by decide) l 0 n hd h (Nat.le_trans (by omega:n≤4294967295) (by decide))
theorem dec_words {l:Bs} {p:Nat} (hd:∀ b ∈ l,isDig b=true) (h:Lib.decFrom 0 l=some p):(wordsOf p).length≤l.length:=by
 obtain ⟨m,hm,hl⟩:=decFrom_all l hd;rw [hl] at h;cases h
 rw [length_wordsOf];rw [Nat.zero_mul,Nat.zero_add];exact Nat.lt_of_lt_of_le hm (Nat.pow_le_pow_left (by omega) _)
def isNum (s:Bs):Bool:=decide (s≠[]∧∀ b ∈ s,isDig b=true)
def nval (s:Bs):Nat:=if isNum s then (Lib.decFrom 0 s).getD 0 else 0
def MulI (xs:List Nat) (c0 j:Nat) (ys:List Nat) (c:Nat):Prop :=
 ys.length=j∧Wd ys∧c<4294967296∧val ys+4294967296 ^ j * c=val (xs.take j) * 1000000000+c0
theorem MulI.start (xs:List Nat) {c0:Nat} (h:c0<4294967296):MulI xs c0 0 [] c0:=⟨rfl,Wd.nil,h,by simp [val]⟩
theorem MulI.step {xs ys:List Nat} {c0 j c:Nat} (hw:Wd xs) (h:MulI xs c0 j ys c):MulI xs c0 (j+1) (ys ++ [(c+xs.getD j 0 * 1000000000) % 4294967296]) ((c+xs.getD j 0 * 1000000000) / 4294967296):=by
 obtain ⟨h1,h2,h3,h4⟩:=h
 have hx:xs.getD j 0<4294967296:=by
  rcases Nat.lt_or_ge j xs.length with hj|hj
  ·rw [List.getD_eq_getElem?_getD,List.getElem?_eq_getElem hj];exact hw _ (List.getElem_mem hj)
  ·rw [List.getD_eq_getElem?_getD,List.getElem?_eq_none hj];simp
 have e:=val_take_succ xs j;generalize xs.getD j 0=x at *
 refine ⟨by simp [h1],fun z hz=>?_,by omega,?_⟩
 ·rcases List.mem_append.1 hz with hz|hz
  ·exact h2 z hz
  ·rw [List.mem_singleton.1 hz];exact Nat.mod_lt _ (by omega)
 ·have hp:4294967296 ^ (j+1)=4294967296 ^ j * 4294967296:=Nat.pow_succ ..;have ht:=Nat.mod_add_div (c+x * 1000000000) 4294967296;rw [val_snoc,h1,e,hp,Nat.mul_assoc];generalize 4294967296 ^ j=P at *
  generalize (c+x * 1000000000) % 4294967296=a at *
  generalize (c+x * 1000000000) / 4294967296=b at *
  have h5:P * a+P * (4294967296 * b)=P * (c+x * 1000000000):=by rw [← Nat.mul_add,ht]
  rw [Nat.mul_add] at h5;have h6:P * (x * 1000000000)=P * x * 1000000000:=(Nat.mul_assoc ..).symm;rw [Nat.add_mul];omega
theorem MulI.fin {p c0 c:Nat} {ys:List Nat} (h:MulI (wordsOf p) c0 (wordsOf p).length ys c):wordsOf (p * 1000000000+c0)=ys ++ (if 0<c then [c] else []):=by
 obtain ⟨h1,h2,h3,h4⟩:=h;rw [List.take_of_length_le ql,val_wordsOf] at h4;split
 ·rename_i hc;have hv:val (ys ++ [c])=p * 1000000000+c0:=by rw [val_snoc,h1,← h4]
  rw [← hv];refine wordsOf_of_last (fun z hz=>?_) (.inr ?_)
  ·rcases List.mem_append.1 hz with hz|hz
   ·exact h2 z hz
   ·rw [List.mem_singleton.1 hz];exact h3
  ·simp;omega
 ·rename_i hc;obtain rfl:c=0:=by omega
  rw [Nat.mul_zero,Nat.add_zero] at h4;rw [List.append_nil,← h4];refine wordsOf_of_last h2 ?_;rcases Nat.eq_zero_or_pos ys.length with hl|hl
  ·exact .inl (List.length_eq_zero_iff.1 hl)
  ·right;intro h0;have hB:=(length_lt p (ys.length - 1)).1 (by omega);have h5:=val_take_succ ys (ys.length - 1);rw [h0,Nat.mul_zero,Nat.add_zero,show ys.length - 1+1=ys.length by omega,List.take_of_length_le ql] at h5;have h6:=val_lt (ys.take (ys.length - 1)) (fun z hz=>h2 z (List.mem_of_mem_take hz));rw [List.length_take,Nat.min_eq_left (by omega)] at h6;omega
theorem ba_take (l:Bs) (k:Nat):(⟨l.toArray⟩:ByteArray).extract 0 k=⟨(l.take k).toArray⟩:=by
 apply ByteArray.ext
 apply Array.ext'
 simp [ByteArray.data_extract]
theorem ba_drop (l:Bs) (k n:Nat) (hn:l.length≤n):(⟨l.toArray⟩:ByteArray).extract k n=⟨(l.drop k).toArray⟩:=by
 apply ByteArray.ext
 apply Array.ext'
 simp [ByteArray.data_extract];exact List.take_of_length_le (by simp;omega)
def InP (W W1:World) (A:Option Addr) (n c4:Nat) (xs:List Nat) (c0:Nat) (v8 v40:Value) (wr:World):Prop :=
 ∃ (j:Nat) (ys:List Nat) (c:Nat),j≤n∧v40=.int .i64 (j:Int)∧v8=.int .u64 (c:Int)∧MulI xs c0 j ys c∧wr.ownsRow W.heap.size 43 1 (.slice A n c4) n (U32 (ys ++ xs.drop j))∧Below W.heap.size W1 wr
def ParseW (W:World) (s:Bs) (G:Nat) (v0 v4:Value) (wr:World):Prop :=
 ∃ pre rest p,s=pre ++ rest∧v0=.string ⟨rest.toArray⟩∧G=rest.length∧Lib.decFrom 0 pre=some p∧(wordsOf p).length≤pre.length∧(p=0∧pre=[]∨rest.length % 9=0) ∧
  wr.ownsRow W.heap.size 43 1 v4 (wordsOf p).length (U32 (wordsOf p))∧Below W.heap.size W wr
def ParseN (s:Bs) (e:Ending) (w':World):Prop:=∃ A n c,e=.returned (.tuple #[.agg #[.slice A n c],.bool (isNum s)])∧SN w' A n c (nval s)
theorem rn_set {w:World} {g:Nat} {A:Option Addr} {n c k:Nat} (h:SN w A n c k) {cs:List Value} (hB:Blk w g 24 cs) (hcs:∀ x ∈ cs,∀ n,x≠.int .u32 n) (j:Nat) (u:Value):SN (w.setCell ⟨g,j,none⟩ u) A n c k:=RL.far h hB hcs j u
theorem nat_Parse (w:World) (s:Bs) (hG:GW w) (hs:s.length≤100000) :
  Calls Tryz.prog 89 #[.string ⟨s.toArray⟩] w fun e w'=>ParseN s e w'∧Below w.heap.size w w':=by
 have HG:=qh hG;have hsI:(s.length:Int)≤100000:=by omega
 obtain ⟨i4,hi4,hz40,hz41,hz42⟩:=info_parts Tryz_info43;clear hG;by_cases hn:isNum s=true
 ·have hn':s≠[]∧∀ b ∈ s,isDig b=true:=by unfold isNum at hn;exact of_decide_eq_true hn
  obtain ⟨v,hv,hdv⟩:=decFrom_all s hn'.2;have hnv:nval s=v:=by unfold nval;rw [if_pos hn,hdv 0];simp
  have hsl:0<s.length:=by rcases Nat.eq_zero_or_pos s.length with h|h;exact absurd (List.length_eq_zero_iff.1 h) hn'.1;exact h
  have hse:(s == [])=false:=by rw [beq_eq_false_iff_ne];exact hn'.1
  have HDIG:=qh hn'.2;have HNV:=qh hnv;have HDV:=qh (hdv 0);have HN:=qh hn;clear hn hn' hdv hnv hv;go_enter Tryz.func89,Tryz.ntmps89;go_upto_region 1 with fail;refine wp_letter (fun w1=>Blk w1 w.heap.size 24 [.slice none 0 0]∧Below w.heap.size w w1) ⟨Blk.made _ 24 _ _ _ rfl rfl,(Below.refl _ _).alloc ql _⟩ ?_;rintro w1 ⟨b0,hb⟩;have HB:=qh hb;have B0:=qh b0;have h1z:=b0.lt;clear hb b0;go_wp2_with fail;refine (str_trim ⟨s.toArray⟩ w1 (by show s.toArray.size≤_;simp;omega)).mono ?_;rw [show Lib.trimS (⟨s.toArray⟩:ByteArray).data.toList digs=[] from (trim_nil s).2 HDIG.o];rintro e w2 ⟨rfl,hb2⟩;have B2:=qh (B0.o.below hb2 B0.o.lt);have h2z:=hb2.size;have HB2:=qt HB hb2;clear hb2 B0 HB;dsimp only;obtain ⟨W0,hW0⟩:∃ x:World,x=w2:=⟨_,rfl⟩;have HW0:=qh hW0;rw [← hW0] at HB2 B2;subst hW0;go_upto_region 4 with fail;go_loopg [0,4] s.length (fun G v0 v4 wr=>ParseW W0 s G v0 v4 wr)
  case atStart=>exact ⟨[],s,0,rfl,rfl,rfl,rfl,by rw [wordsOf_zero];simp,.inl ⟨rfl,rfl⟩,by rw [wordsOf_zero];exact World.ownsRow_nil _ _ _ _,Below.refl _ _⟩
  case round =>
   obtain ⟨pre,rest,p,hpr,rfl,hgk,hdp,hwl,h9,ho,hb⟩:=hrel;have hrs:rest.length≤s.length:=by rw [hpr];simp
   have hps:pre.length≤s.length:=by rw [hpr];simp
   have HPR:=qh hpr;have HDP:=qh hdp;have H9:=qh h9;have HO:=qh ho;have HBR:=qh hb;clear hpr hdp h9 ho hb;by_cases hr0:0<rest.length
   ·obtain ⟨r,hr⟩:∃ r,r=(rest.length - 1) % 9:=⟨_,rfl⟩;have hr8:r≤8:=by omega
    have hrl:r+1≤rest.length:=by omega
    have hrI:(r:Int)+1≤(rest.length:Int):=by omega
    have e1:Int.tmod ((rest.length:Int) - 1) 9=(r:Int):=by rw [Int.tmod_eq_emod_of_nonneg (by omega)];omega
    have e2:((rest.length:Int) - 1) % 9=(r:Int):=by omega
    have hr0I:(0:Int)<(rest.length:Int):=by omega
    have hrlI:(rest.length:Int)≤100000:=by omega
    have HR:=qh hr;clear hr;obtain ⟨A4,c4,rfl,hc4,-⟩:=SlC.own HO.o;obtain ⟨xs,hxs⟩:∃ xs,xs=wordsOf p:=⟨_,rfl⟩;obtain ⟨n,hn⟩:∃ n,n=xs.length:=⟨_,rfl⟩;rw [← hxs,← hn] at HO hc4 hwl;rw [← hxs,← hn];have hnl:n≤100000:=by omega
    have hnI:(n:Int)≤100000:=by omega
    have hnx:=hn;have hwx:Wd xs:=by rw [hxs];exact wd_wordsOf p
    have HXS:=qh hxs;have HN4:=qh hn;have HNX:=qh hnx;have HWX:=qh hwx;clear hxs hn hnx hwx hwl;go_wp2_with fail;have HDR:Hid (∀ b ∈ rest,isDig b=true):=fun b hb=>HDIG.o b (by rw [HPR.o];simp [hb]);obtain ⟨c0,hc0,hdc⟩:=decFrom_all (rest.take (r+1)) (fun b hb=>HDR.o b (List.mem_of_mem_take hb));have htl:(rest.take (r+1)).length=r+1:=by rw [List.length_take];omega
    have hc9:c0<1000000000:=Nat.lt_of_lt_of_le hc0 (by rw [htl];exact Nat.pow_le_pow_right (n:=10) (j:=9) (by omega) (by omega));have HDC:=qh hdc;have HTL:=qh htl;clear hdc hc0 htl;rw [ba_take];refine (Tryz.strconv_ParseUint_10_at32_ok ⟨(rest.take (r+1)).toArray⟩ (by show (rest.take (r+1)).toArray.size≤_;simp;omega) c0 (parseUint_ok (l:=rest.take (r+1)) (by intro h;have:=HTL.o;rw [h] at this;simp at this) (fun b hb=>HDR.o b (List.mem_of_mem_take hb)) (by have:=HDC.o 0;simpa using this) hc9) wr).mono ?_;rintro e w3 ⟨rfl,hw3⟩
    have hb3:Below wr.heap.size wr w3:=by
     rcases hw3 with rfl|rfl
     ·exact Below.refl _ _
     ·exact Lib.bytesWorld_below _ _ _
    have O3:=qh (own_kept_below HO.o hb3);have HB3:=qt HBR hb3;clear hw3 hb3;dsimp only;have hc0I:(c0:Int)<1000000000:=by omega
    go_wp2_with fail;rw [ba_drop _ _ _ ql];go_loopw [8,40] (InP W0 W0 A4 n c4 xs c0) (fun _ i _=>n - (intOf i).toNat)
    case atStart=>exact ⟨0,[],c0,Nat.zero_le _,rfl,rfl,MulI.start xs (by omega),by simpa using O3.o,HB3.o⟩
    case round =>
     obtain ⟨j,ys,c,hj,rfl,rfl,hM,ho,hb⟩:=hrel;have HM:=qh hM;have HO2:=qh ho;have HB2r:=qh hb;have hyl:=hM.1;have hcI:(c:Int)≤4294967295:=by have:=hM.2.2.1;omega
     clear hM ho hb;by_cases hjn:j<n
     ·obtain ⟨g4,cap4,hv4,hg4,hg5⟩:=World.ownsRow.form HO2.o (by omega);obtain ⟨rfl,-,rfl⟩:=Value.slice.inj hv4;have HS:=qh (HM.o.step HWX.o);obtain ⟨x,hx⟩:∃ x,x=xs.getD j 0:=⟨_,rfl⟩
      have hcell:wr.cell? ⟨g4,j,none⟩=some (.int .u32 (x:Int)):=by
       rw [World.ownsRow.cellAt HO2.o j (by omega),hx];have hjx:j<xs.length:=by rw [← HNX.o];exact hjn
       rw [U32_get _ j (by simp;omega)];rw [show (ys ++ xs.drop j).getD j 0=xs.getD j 0 by rw [List.getD_eq_getElem?_getD,List.getElem?_append_right (by omega),List.getElem?_drop,List.getD_eq_getElem?_getD,hyl,Nat.sub_self,Nat.add_zero]]
      have hfr:=World.ownsRow.frozenAt HO2.o j
      have hxI:(x:Int)≤4294967295:=by
       have hjx:j<xs.length:=by rw [← HNX.o];exact hjn
       have:=HWX.o (xs.getD j 0) (by rw [List.getD_eq_getElem?_getD,List.getElem?_eq_getElem hjx];exact List.getElem_mem hjx);omega
      obtain ⟨t,ht⟩:∃ t,t=c+x * 1000000000:=⟨_,rfl⟩;rw [← hx,← ht] at HS;have htI:(c:Int)+(x:Int) * 1000000000=(t:Int):=by omega
      have htl:(t:Int)≤4294967295 * 1000000001:=by omega
      obtain ⟨y,hy⟩:∃ y,y=t % 4294967296:=⟨_,rfl⟩;obtain ⟨q,hq⟩:∃ q,q=t / 4294967296:=⟨_,rfl⟩;rw [← hy,← hq] at HS;have hw32:IntKind.u32.wrap (t:Int)=(y:Int):=by simp [IntKind.wrap,IntKind.bits,IntKind.signed];omega
      have hq32:(t:Int) / 4294967296=(q:Int):=by omega
      have hjI:(j:Int)<(n:Int):=by omega
      have hj0:(0:Int)≤(j:Int):=by omega
      have HT:=qh ht;have HY:=qh hy;have HQ:=qh hq;have HX:=qh hx;have HYL:=qh hyl;clear ht hy hq hx hyl hv4;go_wp2_with fail
      have hset:(U32 (ys ++ xs.drop j)).set j (.int .u32 (y:Int))=U32 ((ys ++ [y]) ++ xs.drop (j+1)):=by
       have hjx:j<xs.length:=by rw [← HNX.o];exact hjn
       rw [U32_set,List.drop_eq_getElem_cons hjx,set_mid _ _ _ _ _ HYL.o]
      exact ⟨⟨j+1,ys ++ [y],q,by omega,by go_num,rfl,HS.o,by rw [← hset];exact (World.ownsRow.stored HO2.o j _).1,HB2r.o.setCell hg4 _⟩,by simp [intOf];omega⟩
     ·obtain rfl:j=n:=by omega
      have hjI:¬ (j:Int)<(j:Int):=by omega
      have hmf:MulI (wordsOf p) c0 (wordsOf p).length ys c:=by rw [← HXS.o,← HNX.o];exact HM.o
      have hfin:=MulI.fin hmf;have hdx:xs.drop j=[]:=List.drop_eq_nil_of_le (by rw [← HNX.o];exact ql);have ho2:=HO2.o;rw [hdx,List.append_nil] at ho2;have HO3:=qh ho2;have HFIN:=qh hfin;have HYL:=qh hyl;obtain ⟨p',hp'⟩:∃ p',p'=p * 1000000000+c0:=⟨_,rfl⟩;rw [← hp'] at HFIN
      have hdec:Lib.decFrom 0 (pre ++ rest.take (r+1))=some p':=by
       rw [decFrom_app _ _ _ _ HDP.o,HDC.o,HTL.o,hp']
       congr 1
       rcases H9.o with ⟨rfl,rfl⟩|h
       ·omega
       ·rw [show r+1=9 by have:=HR.o;omega]
      have HP':=qh hdec;have hw':(wordsOf p').length≤(pre ++ rest.take (r+1)).length:=dec_words (fun b hb=>HDIG.o b (by rw [HPR.o];rcases List.mem_append.1 hb with h|h;exact List.mem_append_left _ h;exact List.mem_append_right _ (List.mem_of_mem_take h))) hdec;have HW':=qh hw';clear hmf hfin hdx ho2 hyl hp' hdec hw';by_cases hc0:0<c
      ·have hc0I:(0:Int)<(c:Int):=by omega
       have hw32:IntKind.u32.wrap (c:Int)=(c:Int):=by simp [IntKind.wrap,IntKind.bits,IntKind.signed];omega
       have hmx:=maxLen_ge;obtain ⟨WX,hWX⟩:∃ x:World,x=wr:=⟨_,rfl⟩;subst hWX;have HRS:=qh hrs;go_wp2_with (at_builtin;go_loud (refine wpList_append_lies _ (by rfl) (.tmp 60) (.tmp 63) 22 (by rfl) W0.heap.size 43 i4 (.int .u32 0) 1 4 Tryz.underlying22 hi4 hz40 hz41 hz42 rfl (by decide) _ j (U32 ys) (by rfl) (World.ownsRow.alloc HO3.o _) ⟨WX.heap.size,0,none⟩ 1 1 [.int .u32 (c:Int)] (by rfl) rfl (cell_one_new _ _ _) (by simp [Value.oneCell']) (by omega) (by omega) (by omega) (by have:=HB2r.o.size;simp;omega) (WX.heap.size+1) (by simp) ?_);intro g1 cap1 w8 hown hgrow hat hlt7;have HO8:=qh hown;have HG8:=qh hgrow;clear hown hgrow hat)
       go_roundg (rest.drop (r+1)).length
       case rel =>
        exact ⟨pre ++ rest.take (r+1),rest.drop (r+1),p',by rw [List.append_assoc,List.take_append_drop];exact HPR.o,rfl,rfl,HP'.o,HW'.o,.inr (by rw [List.length_drop];have:=HR.o;omega),by rw [HFIN.o,if_pos hc0,List.length_append,List.length_singleton,HYL.o,show U32 (ys ++ [c])=U32 ys ++ [.int .u32 (c:Int)] by simp [U32]];exact HO8.o,below_grown (HB2r.o.alloc HB2r.o.size _) HG8.o (by have:=HB2r.o.size;simp;omega) (fun j hj=>(World.ownsRow.lt HO3.o j hj).1)⟩
       case measure=>rw [List.length_drop];omega
      ·have hc0I:¬ (0:Int)<(c:Int):=by omega
       have HRS:=qh hrs;go_wp2_with fail
       go_roundg (rest.drop (r+1)).length
       case rel =>
        exact ⟨pre ++ rest.take (r+1),rest.drop (r+1),p',by rw [List.append_assoc,List.take_append_drop];exact HPR.o,rfl,rfl,HP'.o,HW'.o,.inr (by rw [List.length_drop];have:=HR.o;omega),by rw [HFIN.o,if_neg hc0,List.append_nil,HYL.o];exact HO3.o,HB2r.o⟩
       case measure=>rw [List.length_drop];omega
   ·obtain rfl:rest=[]:=List.length_eq_zero_iff.1 (by omega);obtain ⟨A4,c4,rfl,hc4,-⟩:=SlC.own HO.o
    have hpv:p=nval s:=by
     have h1:=HPR.o;rw [List.append_nil] at h1;have h2:=HDP.o;rw [← h1,HDV.o] at h2;rw [HNV.o];have:=Option.some.inj h2;omega
    have hsn:SN wr A4 (wordsOf p).length c4 p:=⟨SlC.own HO.o,wd_wordsOf p⟩;obtain ⟨n,hn⟩:∃ n,n=(wordsOf p).length:=⟨_,rfl⟩;rw [← hn] at hsn ⊢;rw [hpv] at hsn;have HS:=qh hsn;have B3:=qh (B2.o.below (HBR.o) B2.o.lt);have HB4:=qh (HB2.o.trans (HBR.o.mono HB2.o.size));obtain ⟨k0,f0⟩:=B3.o.cf1;have q1:=B3.o.put 0 (.slice A4 n c4);have q2:=rn_set HS.o B3.o (by simp) 0 (.slice A4 n c4);have q3:=below_set HB4.o w.heap.size 0 ql (.slice A4 n c4);have hin:=HN.o;have hNN:=qh hn;clear hn hsn hpv hrs hps hwl hc4;go_wp2_with fail;have q0:=q1.cell 0;generalize wr.setCell ⟨w.heap.size,0,none⟩ (.slice A4 n c4)=wf at *
    simp only [M0,M2] at q0;refine bodyPost_ret (v:=.tuple #[.agg #[.slice A4 n c4],.bool true]) (by simp [results,Tryz.results89,go_sem,q0];try rfl) rfl ?_;exact ⟨⟨A4,n,c4,by rw [hin],q2⟩,q3⟩
 ·have hf:isNum s=false:=by simpa using hn
  have hnv:nval s=0:=by unfold nval;rw [hf];rfl
  have HF:=qh hf;have HNV:=qh hnv
  have hcase:s=[]∨(s≠[]∧¬ ∀ b ∈ s,isDig b=true):=by
   unfold isNum at hf;have:=of_decide_eq_false hf;by_cases h:s=[]
   ·exact .inl h
   ·exact .inr ⟨h,fun h2=>this ⟨h,h2⟩⟩
  clear hf hnv hn;go_enter Tryz.func89,Tryz.ntmps89;go_upto_region 1 with fail;refine wp_letter (fun w1=>Blk w1 w.heap.size 24 [.slice none 0 0]∧Below w.heap.size w w1) ⟨Blk.made _ 24 _ _ _ rfl rfl,(Below.refl _ _).alloc ql _⟩ ?_;rintro w1 ⟨b0,hb⟩;have HB:=qh hb;have B0:=qh b0;clear hb b0;rcases hcase with rfl|⟨h1,h2⟩
  ·have k0:=B0.o.cell 0;have f0:=B0.o.frozen 0;simp only [M2] at k0;go_wp2_with fail;have hf:=B0.o.put 0 (.slice none 0 0);have q0:=hf.cell 0;have hbf:=below_set HB.o w.heap.size 0 ql (.slice none 0 0);generalize w1.setCell ⟨w.heap.size,0,none⟩ (.slice none 0 0)=wf at *
   simp only [M0,M2] at q0;refine bodyPost_ret (v:=.tuple #[.agg #[.slice none 0 0],.bool false]) (by simp [results,Tryz.results89,go_sem,q0];try rfl) rfl ?_;exact ⟨⟨none,0,0,by rw [HF.o],by rw [HNV.o];show RL _ _ (wordsOf 0);rw [wordsOf_zero];exact ⟨SlC.nil _ _ _ _,Wd.nil⟩⟩,hbf⟩
  ·have hse:(s == [])=false:=by rw [beq_eq_false_iff_ne];exact h1
   have ht:Lib.trimS s digs≠[]:=fun h=>h2 ((trim_nil s).1 h);obtain ⟨T,hT⟩:∃ T,T=Lib.trimS s digs:=⟨_,rfl⟩;have hTb:(T == [])=false:=by rw [beq_eq_false_iff_ne,hT];exact ht
   have HT:=qh hT;clear h1 h2 ht hT;go_wp2_with fail;refine (str_trim ⟨s.toArray⟩ w1 (by show s.toArray.size≤_;simp;omega)).mono ?_;rw [show Lib.trimS (⟨s.toArray⟩:ByteArray).data.toList digs=T from HT.o.symm];rintro e w2 ⟨rfl,hb2⟩;have B2:=qh (B0.o.below hb2 B0.o.lt);have HB2:=qt HB hb2;clear hb2 B0 HB;obtain ⟨k0,f0⟩:=B2.o.cf1;dsimp only;go_wp2_with fail;have hf:=B2.o.put 0 (.slice none 0 0);have q0:=hf.cell 0;have hbf:=below_set HB2.o w.heap.size 0 ql (.slice none 0 0);generalize w2.setCell ⟨w.heap.size,0,none⟩ (.slice none 0 0)=wf at *
   simp only [M0,M2] at q0;refine bodyPost_ret (v:=.tuple #[.agg #[.slice none 0 0],.bool false]) (by simp [results,Tryz.results89,go_sem,q0];try rfl) rfl ?_;exact ⟨⟨none,0,0,by rw [HF.o],by rw [HNV.o];show RL _ _ (wordsOf 0);rw [wordsOf_zero];exact ⟨SlC.nil _ _ _ _,Wd.nil⟩⟩,hbf⟩
end Go.Proofs.YtdgleeglndcjhaaGreatDoor
