import Derived.Test.YtdgleeglndcjhaaGreatDoorX13
import Derived.Deep.CutBlock
set_option linter.unusedVariables false
set_option maxHeartbeats 1000000
set_option maxRecDepth 100000
namespace Go.Proofs.YtdgleeglndcjhaaGreatDoor
open Go.RowKit
theorem grown_refl (w:World) (g:Nat):w.grownBy w (some g):=⟨rfl,rfl,rfl,ql,fun _ _ _=>rfl⟩
theorem grown_set {w w':World} {g:Nat} (h:w.grownBy w' (some g)) (j:Nat) (u:Value):w.grownBy (w'.setCell ⟨g,j,none⟩ u) (some g) :=
 ⟨h.os,h.tape,h.output,by simpa [World.setCell] using h.size,fun k hk hne=>by rw [Below.heap_setCell _ _ _ _ (by rintro rfl;exact hne rfl)];exact h.block k hk hne⟩
theorem grown_drewN {w w':World} {g:Nat} (h:w.grownBy w' (some g)) (n:Nat):w.grownBy (w'.drewN n) (some g):=⟨h.os,h.tape,h.output,h.size,h.block⟩
theorem grown_trans {w w1 w2:World} {g:Nat} (h:w.grownBy w1 (some g)) (k:w1.grownBy w2 (some g)):w.grownBy w2 (some g) :=
 ⟨k.os.trans h.os,k.tape.trans h.tape,k.output.trans h.output,Nat.le_trans h.size k.size,fun i hi hne=>(k.block i (Nat.lt_of_lt_of_le hi h.size) hne).trans (h.block i hi hne)⟩
theorem Blk.grown {w w':World} {g b:Nat} {t:TypeId} {l:List Value} (h:Blk w b t l) (hg:w.grownBy w' (some g)) (hne:b≠g):Blk w' b t l:=by
 have:=h.lt;unfold Blk at *
 rw [hg.block b this (by simpa using hne)];exact h
theorem sub_word2 (s t q:Nat) (hs:s<4294967296) (ht:t<4294967296) (hq:q≤1) :
  ∃ d x r:Nat,IntKind.u64.wrap (IntKind.u64.wrap ((s:Int) - (t:Int)) - (q:Int))=(d:Int)∧(d:Int) % 4294967296=x∧(((d:Int) / 4294967296) != 0)=(r == 1)∧r≤1∧(x<4294967296∧x+t+q=s+r * 4294967296):=by
 have hw:∀ n:Int,IntKind.u64.wrap n=n % 18446744073709551616:=fun n=>by simp [IntKind.wrap,IntKind.bits,IntKind.signed]
 simp only [hw];by_cases h:t+q≤s
 ·refine ⟨s - t - q,s - t - q,0,by omega,by omega,?_,by omega,by omega,by omega⟩;rw [show ((s - t - q:Nat):Int) / 4294967296=0 by omega]
  rfl
 ·refine ⟨18446744073709551616+s - t - q,4294967296+s - t - q,1,by omega,by omega,?_,by omega,by omega,by omega⟩;rw [show ((18446744073709551616+s - t - q:Nat):Int) / 4294967296=4294967295 by omega]
  rfl
theorem nat_less (w:World) (g o cu gv cv n:Nat) (pre u post lv ev:List Nat) (q:Nat) (hB:Blk w g 43 (U32 (pre ++ (u ++ post)))) (hV:Blk w gv 43 (U32 (lv ++ ev))) (hne:gv≠g)
  (ho:pre.length=o) (hn:lv.length=n) (hu:u.length=n+1) (hcu:n+1≤cu) (hcv:n≤cv) (hn8:n≤100000000) (ho8:o≤1000000000) (hud:Wd u) (hvd:Wd lv) (hq:q<4294967296) :
  Calls Tryz.prog 197 #[.slice (some ⟨g,o,none⟩) (n+1) cu,.slice (some ⟨gv,0,none⟩) n cv,.int .u64 q] w fun e w'=>∃ u' r,e=.returned (.bool (r == 1))∧(r == 1)=decide (val u<q * val lv)∧r≤1 ∧
   Blk w' g 43 (U32 (pre ++ (u' ++ post)))∧u'.length=n+1∧Wd u'∧val u'+q * val lv=val u+r * 4294967296 ^ (n+1)∧w.grownBy w' (some g):=by
 have Ho:=qh ho;have Hn:=qh hn;have Hu:=qh hu;clear ho hn hu;go_enter Tryz.func197,Tryz.ntmps197;go_wp2_with fail
 go_loopw [7,8,15] (fun s7 s8 s15 wr=>∃ (k c r:Nat) (done:List Nat),s15=.int .i64 k∧s7=.int .u64 c∧s8=.int .u64 r∧k≤n∧r≤1∧c<4294967296∧done.length=k∧Wd done ∧
   val done+q * val (lv.take k)=val (u.take k)+(r+c) * 4294967296 ^ k ∧
   Blk wr g 43 (U32 ((pre ++ done) ++ (u.drop k ++ post)))∧w.grownBy wr (some g)) (fun _ _ i _=>n - (intOf i).toNat)
 case atStart =>
  refine ⟨0,0,0,[],rfl,rfl,rfl,by omega,by omega,by omega,rfl,Wd.nil,by simp [val],by simpa using hB,grown_refl _ _⟩
 case round =>
  obtain ⟨k,c,r,done,rfl,rfl,rfl,hk,hr,hc,hdl,hdw,hv,B,hg⟩:=hrel;have Hdl:=qh hdl;have Hv:=qh hv;have V:=hV.grown hg hne;have hpl:(pre ++ done).length=o+k:=by rw [List.length_append,Ho.o,Hdl.o]
  clear hdl hv;have hdr:=drop_cons_getD u k (by rw [Hu.o];omega);rw [hdr,List.cons_append] at B;have hcu2:=(B.cell (o+k)).trans (U32_get _ (o+k) (by simp [Hdl.o,Ho.o]));rw [getD_mid _ _ _ _ hpl] at hcu2;have hfu:=B.frozen (o+k);have hus:=hud.getD k;by_cases hkn:k<n
  ·have hcv:=(V.cell k).trans (U32_get _ k (by simp [Hn.o];omega));have e:(lv ++ ev).getD k 0=lv.getD k 0:=by rw [List.getD_eq_getElem?_getD,List.getD_eq_getElem?_getD,List.getElem?_append_left (by rw [Hn.o];omega)]
   rw [e] at hcv;have hvs:=hvd.getD k;obtain ⟨z,hz⟩:∃ z,z=u.getD k 0:=⟨_,rfl⟩;obtain ⟨y,hy⟩:∃ y,y=lv.getD k 0:=⟨_,rfl⟩;rw [← hz] at hcu2 hus;rw [← hy] at hcv hvs;obtain ⟨p,hp⟩:∃ p,p=q * y:=⟨_,rfl⟩;obtain ⟨hs8,hs9⟩:=mul_small (x:=q) (y:=y) (o:=0) (c:=c) hq hvs (by omega) hc;rw [Nat.add_zero,← hp] at hs8 hs9
   have hmul:IntKind.u64.wrap ((q:Int) * (y:Int))=(p:Int):=by
    have e:(q:Int) * (y:Int)=(p:Int):=by rw [hp];simp
    rw [e];exact IntWalk.u64_in _ ⟨by omega,by omega⟩
   obtain ⟨t,ht⟩:∃ t,t=(c+p) % 4294967296:=⟨_,rfl⟩;have ht8:t<4294967296:=by omega
   have htm:((c:Int)+(p:Int)) % 4294967296=(t:Int):=by omega
   obtain ⟨d,x,r',hd1,hd2,hd3,hd4,hx1,hx2⟩:=sub_word z t r hus ht8 hr
   have hR:Hid (val (done ++ [x])+q * val (lv.take (k+1))=val (u.take (k+1))+(r'+(c+p) / 4294967296) * 4294967296 ^ (k+1)):=by
    have:=less_round (x:=x) (r':=r') Hdl.o Hv.o (by rw [← hy,← hp,← ht,← hz];exact hx2);rw [← hy,← hp] at this;exact this
   have HB:=qh B;have Hg:=qh hg;have Hpl:=qh hpl;have Hhx:=qh hx1;have hkn':(k:Int)<(n:Int):=by omega
   clear hB hV B V hg hpl hz hy hp ht e hx2 hdr;go_wp2_with fail;refine ⟨⟨k+1,(c+p) / 4294967296,r',done ++ [x],by go_num,by go_num,rfl,by omega,hd4,by omega,by rw [List.length_append,Hdl.o];rfl,hdw.append (Wd.one Hhx.o),hR.out,?_,grown_set Hg.o _ _⟩,by simp [intOf];omega⟩;have h:=HB.o.put (o+k) (.int .u32 (x:Int));rw [U32_set,set_mid _ _ _ _ _ Hpl.o] at h;simpa [List.append_assoc] using h
  ·obtain rfl:k=n:=by omega
   obtain ⟨z,hz⟩:∃ z,z=u.getD k 0:=⟨_,rfl⟩;rw [← hz] at hcu2 hus;obtain ⟨d,x,r',hd1,hd2,hd3,hd4,hx1,hx2⟩:=sub_word2 z c r hus hc hr
   have hE:Hid (val (done ++ [x])+q * val lv=val u+r' * 4294967296 ^ (k+1)∧((r' == 1)=decide (val u<q * val lv))):=by
    have h:=Hv.o;rw [List.take_of_length_le (l:=lv) (by rw [Hn.o];omega)] at h;exact less_end Hdl.o Hu.o hdw hx1 hd4 h (by rw [← hz];exact hx2)
   have hdn:u.drop (k+1)=[]:=List.drop_of_length_le (by rw [Hu.o];omega);rw [hdn,List.nil_append] at B;have HB:=qh B;have Hg:=qh hg;have Hpl:=qh hpl;have Hhx:=qh hx1;have hc':(c:Int)<4294967296:=by omega
   clear hB hV B V hg hpl hz hx2 hdr hdn
   go_wp2
   go_ret
   refine ⟨done ++ [x],r',?_,hE.out.2,hd4,?_,by rw [List.length_append,Hdl.o];rfl,hdw.append (Wd.one Hhx.o),hE.out.1,grown_set Hg.o _ _⟩
   ·first|rfl|(rw [← hd3];rfl)
   ·have h:=HB.o.put (o+k) (.int .u32 (x:Int));rw [U32_set,set_mid _ _ _ _ _ Hpl.o] at h;simpa [List.append_assoc] using h
theorem nat_step (w:World) (g o cu gv cv n:Nat) (pre u post lv ev:List Nat) (hB:Blk w g 43 (U32 (pre ++ (u ++ post)))) (hV:Blk w gv 43 (U32 (lv ++ ev))) (hne:gv≠g)
  (ho:pre.length=o) (hn:lv.length=n) (hu:u.length=n+1) (hcu:n+1≤cu) (hcv:n≤cv) (hn2:2≤n) (hn8:n≤100000000) (ho8:o≤1000000000) (hud:Wd u) (hvd:Wd lv)
  (htop:2147483648≤lv.getD (n - 1) 0) (hW:val u<val lv * 4294967296) :
  Calls Tryz.prog 136 #[.slice (some ⟨g,o,none⟩) (n+1) cu,.slice (some ⟨gv,0,none⟩) n cv] w fun e w'=>∃ u',e=.returned (.int .u32 (val u / val lv:Nat)) ∧
   Blk w' g 43 (U32 (pre ++ (u' ++ post)))∧u'.length=n+1∧Wd u'∧val u'=val u % val lv∧w.grownBy w' (some g):=by
 obtain ⟨m,rfl⟩:∃ m,n=m+2:=⟨n - 2,by omega⟩;rw [show m+2 - 1=m+1 by omega] at htop;have Ho:=qh ho;have Hn:=qh hn;have Hu:=qh hu;have HB:=qh hB;have HV:=qh hV;have HW:=qh hW;obtain ⟨un,hun⟩:∃ z,z=u.getD (m+2) 0:=⟨_,rfl⟩;obtain ⟨u1,hu1⟩:∃ z,z=u.getD (m+1) 0:=⟨_,rfl⟩;obtain ⟨u0,hu0⟩:∃ z,z=u.getD m 0:=⟨_,rfl⟩;obtain ⟨top,ht⟩:∃ z,z=lv.getD (m+1) 0:=⟨_,rfl⟩;obtain ⟨next,hx⟩:∃ z,z=lv.getD m 0:=⟨_,rfl⟩
 have hcell:∀ k,k<m+3→w.cell? ⟨g,o+k,none⟩=some (.int .u32 (u.getD k 0:Nat)):=fun k hk=>by
  have h:=(hB.cell (o+k)).trans (U32_get _ (o+k) (by simp [Ho.o,Hu.o];omega));rw [h,List.getD_eq_getElem?_getD,List.getElem?_append_right (by rw [Ho.o];omega),Ho.o,Nat.add_sub_cancel_left,List.getElem?_append_left (by rw [Hu.o];omega),← List.getD_eq_getElem?_getD]
 have hcelv:∀ k,k<m+2→w.cell? ⟨gv,k,none⟩=some (.int .u32 (lv.getD k 0:Nat)):=fun k hk=>by
  have h:=(hV.cell k).trans (U32_get _ k (by simp [Hn.o];omega));rw [h,List.getD_eq_getElem?_getD,List.getElem?_append_left (by rw [Hn.o];omega),← List.getD_eq_getElem?_getD]
 have cun:=hcell (m+2) (by omega);have cu1:=hcell (m+1) (by omega);have cu0:=hcell m (by omega);have ct:=hcelv (m+1) (by omega);have cx:=hcelv m (by omega);have bun:=hud.getD (m+2);have bu1:=hud.getD (m+1);have bu0:=hud.getD m;have bt:=hvd.getD (m+1);have bx:=hvd.getD m;rw [← hun] at cun bun;rw [← hu1] at cu1 bu1;rw [← hu0] at cu0 bu0;rw [← ht] at ct bt htop;rw [← hx] at cx bx;have hor:=u64_or32 un u1 bun bu1;obtain ⟨high,hh⟩:∃ z,z=un * 4294967296+u1:=⟨_,rfl⟩;rw [← hh] at hor;have hh8:high<18446744073709551616:=by omega
 have Hun:=qh hun;have Hu1:=qh hu1;have Hu0:=qh hu0;have Ht:=qh ht;have Hx:=qh hx;have Hh:=qh hh;clear ho hn hu hB hV hW hun hu1 hu0 ht hx hcell hcelv hh;go_enter Tryz.func136,Tryz.ntmps136;go_wp2_with fail;go_quiet (fail);replace cun:(w.drewN nq).cell? ⟨g,o+(m+2),none⟩=some (.int .u32 un):=cun;replace cu0:(w.drewN nq).cell? ⟨g,o+m,none⟩=some (.int .u32 u0):=cu0;replace ct:(w.drewN nq).cell? ⟨gv,m+1,none⟩=some (.int .u32 top):=ct;replace cx:(w.drewN nq).cell? ⟨gv,m,none⟩=some (.int .u32 next):=cx;have HG:Hid (w.grownBy (w.drewN nq) (some g)):=grown_drewN (grown_refl w g) nq;have HBk:Hid (Blk (w.drewN nq) g 43 (U32 (pre ++ (u ++ post)))):=HB.o.drewN nq;generalize w.drewN nq=w1 at cun cu0 ct cx HG HBk ⊢;clear cu1;go_wp2_with fail;go_quiet (fail);replace cu0:(w1.drewN nq).cell? ⟨g,o+m,none⟩=some (.int .u32 u0):=cu0;have HG2:Hid (w.grownBy (w1.drewN nq) (some g)):=grown_drewN HG.o nq;have HBk2:Hid (Blk (w1.drewN nq) g 43 (U32 (pre ++ (u ++ post)))):=HBk.o.drewN nq;generalize w1.drewN nq=w2 at cu0 HG2 HBk2 ⊢;clear HG cun ct cx;obtain ⟨q0,hq0⟩:∃ q,q=high / top:=⟨_,rfl⟩;obtain ⟨r0,hr0⟩:∃ r,r=high % top:=⟨_,rfl⟩;have hdv:(high:Int) / (top:Int)=(q0:Int):=by rw [hq0,Int.natCast_ediv]
 have hmd:(high:Int) % (top:Int)=(r0:Int):=by rw [hr0,Int.natCast_emod]
 have h64q:IntKind.u64.wrap (q0:Int)=(q0:Int):=IntWalk.u64_in _ ⟨by omega,by have:=Nat.div_le_self high top;omega⟩;have hrt:r0<top:=by rw [hr0];exact Nat.mod_lt _ (by omega)
 have Hqr:Hid (high=q0 * top+r0):=by show high=_;rw [hq0,hr0,Nat.mul_comm];exact (Nat.div_add_mod high top).symm
 have Hq0:=qh hq0;clear hq0 hr0;have hF:=step_facts Hu.o Hn.o hud hvd Hun.o Hu1.o Hu0.o Ht.o Hx.o Hh.o HW.o;obtain ⟨hFv,hFl,hFu,hhi⟩:=hF;obtain ⟨V',hVe,hV'⟩:=hFv;have HP:Hid (0<4294967296 ^ m):=Nat.pow_pos (by omega)
 have hq33:q0<8589934592:=by
  rw [Hq0.o];exact Nat.lt_of_le_of_lt (Nat.div_le_div_left htop (by omega)) (by omega)
 have hq0V:val u / val lv≤q0:=by
  rw [Hq0.o];refine guess_first (P:=4294967296 ^ m) HP.o (by omega) (by rw [hVe];omega) ?_;rw [Nat.add_mul,Nat.one_mul];have:(u0+1) * 4294967296 ^ m≤4294967296 * 4294967296 ^ m:=Nat.mul_le_mul_right _ bu0;omega
 have HhV:Hid (∃ V',val lv=top * (4294967296 * 4294967296 ^ m)+next * 4294967296 ^ m+V'∧V'<4294967296 ^ m):=⟨V',hVe,hV'⟩;have HhF:Hid (high * (4294967296 * 4294967296 ^ m)+u0 * 4294967296 ^ m≤val u∧val u<high * (4294967296 * 4294967296 ^ m)+(u0+1) * 4294967296 ^ m):=⟨hFl,hFu⟩;have Hq0V:=qh hq0V;clear hVe hV' hFl hFu hq0V
 go_upto_block 0 with fail
 go_cut [9,10] (fun s9 s10 wx=>wx=w2∧∃ q:Nat,s9=.int .u64 q∧q<4294967296∧val u / val lv≤q∧q * val lv≤val u+val lv)
 case first =>
  go_wp2_with fail;go_loopg [9,10] (q0+1) (fun G s9 s10 wx=>wx=w2∧∃ q r:Nat,G=q+1∧s9=.int .u64 q∧s10=.int .u64 r∧high=q * top+r∧q<8589934592∧r<4294967296∧val u / val lv≤q)
  case atStart=>exact ⟨rfl,q0,r0,rfl,rfl,by rw [hmd],Hqr.o,hq33,by omega,Hq0V.o⟩
  case round =>
   obtain ⟨rfl,q,r,rfl,rfl,rfl,hh,hq,hr,hl⟩:=hrel;have Hhh:=qh hh;have Hl:=qh hl;have hor2:=u64_or32 r u0 hr bu0;obtain ⟨t,htt⟩:∃ t,t=r * 4294967296+u0:=⟨_,rfl⟩;rw [← htt] at hor2;have Htt:=qh htt;clear hh hl htt hdv hmd h64q hrt;have hrI:(r:Int)<4294967296:=by omega
   have Hhi:=qh hhi;have Hq33:=qh hq
   have HV0:Hid (0<val lv):=by
    rcases Nat.eq_zero_or_pos (val lv) with h|h
    ·have:=HW.o;rw [h] at this;omega
    ·exact h
   -- what follows where the guess is too great
   have HC:Hid (val u / val lv<q→1≤q∧high=(q - 1) * top+(r+top)∧val u / val lv≤q - 1∧(4294967296≤r+top→q - 1<4294967296∧(q - 1) * val lv≤val u+val lv)):=by
    intro h;obtain ⟨q',rfl⟩:∃ q',q=q'+1:=⟨q - 1,by have:=Nat.lt_of_le_of_lt (Nat.zero_le _) h;omega⟩;have e:high=q' * top+(r+top):=by have:=Hhh.o;rw [Nat.add_mul,Nat.one_mul] at this;omega
    refine ⟨by omega,by simpa using e,Nat.le_of_lt_succ h,fun h2=>?_⟩;rw [Nat.add_sub_cancel]
    have h3:q'<4294967296:=by
     rcases Nat.lt_or_ge q' 4294967296 with h3|h3
     ·exact h3
     ·have h4:4294967296 * top≤q' * top:=Nat.mul_le_mul_right _ h3;have:=Hhi.o;omega
    refine ⟨h3,?_⟩;obtain ⟨V',hVe,hV'⟩:=HhV.o;refine guess_high HP.o hVe hV' (by omega) HhF.o.1 e h3 ?_;have h5:q' * next≤4294967296 * 4294967296:=Nat.mul_le_mul (by omega) (by omega);omega
   clear hhi hq33 hh8 hor;by_cases hqB:4294967296≤q
   ·have hqI:(4294967296:Int)≤(q:Int):=by omega
    have hqV:val u / val lv<q:=Nat.lt_of_lt_of_le ((Nat.div_lt_iff_lt_mul HV0.o).2 (by rw [Nat.mul_comm];exact HW.o)) hqB;obtain ⟨hq1,he,hle,hbr⟩:=HC.o hqV;have He:=qh he;have Hle:=qh hle;have Hbr:=qh hbr;clear hqV he hle hbr;by_cases hrt2:4294967296≤r+top
    ·have hrtI:(4294967296:Int)≤(r:Int)+(top:Int):=by omega
     have Hqq:=qh hqB;clear hqB
     go_wp2
     go_meet
     refine ⟨rfl,q - 1,by go_num,(Hbr.o hrt2).1,Hle.o,(Hbr.o hrt2).2⟩
    ·have hrtI:¬ (4294967296:Int)≤(r:Int)+(top:Int):=by omega
     have Hqq:=qh hqB;clear hqB
     go_wp2
     go_roundg (q - 1+1)
     case measure=>omega
     case rel=>exact ⟨rfl,q - 1,r+top,rfl,by go_num,by go_num,He.o,by have:=Hq33.o;omega,by omega,Hle.o⟩
   ·have hqI:¬ (4294967296:Int)≤(q:Int):=by omega
    obtain ⟨p,hp⟩:∃ p,p=q * next:=⟨_,rfl⟩;have hp8:p≤4294967295 * 4294967295:=by rw [hp];exact Nat.mul_le_mul (by omega) (by omega)
    have hmul:IntKind.u64.wrap ((q:Int) * (next:Int))=(p:Int):=by
     have e:(q:Int) * (next:Int)=(p:Int):=by rw [hp];simp
     rw [e];exact IntWalk.u64_in _ ⟨by omega,by omega⟩
    have Hp:=qh hp;clear hp hp8;by_cases hlt:t<p
    ·have hqV:val u / val lv<q:=by
      obtain ⟨V',hVe,hV'⟩:=HhV.o;exact guess_low HP.o (by rw [hVe];exact Nat.le_add_right _ _) HhF.o.2 Hhh.o (by rw [← Hp.o,← Htt.o];exact hlt)
     obtain ⟨hq1,he,hle,hbr⟩:=HC.o hqV;have He:=qh he;have Hle:=qh hle;have Hbr:=qh hbr;clear hqV he hle hbr;by_cases hrt2:4294967296≤r+top
     ·have hrtI:(4294967296:Int)≤(r:Int)+(top:Int):=by omega
      have Hqq:=qh hqB;clear hqB
      go_wp2
      go_meet
      refine ⟨rfl,q - 1,by go_num,(Hbr.o hrt2).1,Hle.o,(Hbr.o hrt2).2⟩
     ·have hrtI:¬ (4294967296:Int)≤(r:Int)+(top:Int):=by omega
      have Hqq:=qh hqB;clear hqB
      go_wp2
      go_roundg (q - 1+1)
      case measure=>omega
      case rel=>exact ⟨rfl,q - 1,r+top,rfl,by go_num,by go_num,He.o,by have:=Hq33.o;omega,by omega,Hle.o⟩
    ·have Hqq:=qh hqB;clear hqB
     go_wp2
     go_meet
     have hqB:=Hqq.o;refine ⟨rfl,q,rfl,by omega,Hl.o,?_⟩;obtain ⟨V',hVe,hV'⟩:=HhV.o;exact guess_high HP.o hVe hV' (by omega) HhF.o.1 Hhh.o (by omega) (by rw [← Hp.o,← Htt.o];omega)
 case rest =>
  obtain ⟨rfl,q,rfl,hq8,hl,hu⟩:=hcut
  have HD:Hid _:=digit (by
    rcases Nat.eq_zero_or_pos (val lv) with h|h
    ·have:=HW.o;rw [h] at this;omega
    ·exact h) hl hu
  clear hdv hmd h64q hrt hhi hq33 hh8 hor hl hu;have HB2:=HBk2;have HV2:Hid (Blk wc gv 43 (U32 (lv ++ ev))):=HV.o.grown HG2.o hne;go_step;go_wp2_with fail;refine (nat_less wc g o cu gv cv (m+2) pre u post lv ev q HB2.o HV2.o hne Ho.o Hn.o Hu.o hcu hcv (by omega) ho8 hud hvd hq8).mono ?_;rintro e w3 ⟨u',r,rfl,hrd,hr1,hB3,hul,huw,huv,hg3⟩;have HG3:=qh (grown_trans HG2.o hg3);have HV3:=qh (HV2.o.grown hg3 hne);have HB3:=qh hB3;have Hul:=qh hul;have Huv:=qh huv;have Hrd:=qh hrd;clear hB3 hul huv hg3 hrd HG2 HB2 HV2;by_cases hr0:r=0
  ·subst hr0;go_wp2_with fail;go_ret
   have hnl:¬ val u<q * val lv:=by have:=Hrd.o;simpa using this
   obtain ⟨h1,h2⟩:=HD.o.1 hnl;refine ⟨u',by rw [h1];rfl,HB3.o,Hul.o,huw,?_,HG3.o⟩;have:=Huv.o;rw [Nat.zero_mul,Nat.add_zero] at this;omega
  ·obtain rfl:r=1:=by omega
   have hlt:val u<q * val lv:=by have:=Hrd.o;simpa using this
   obtain ⟨hq1,h1,h2⟩:=HD.o.2 hlt;have H1:=qh h1;have H2:=qh h2;clear hlt h1 h2 hr1;go_wp2_with fail
   go_loopw [11,82] (fun s11 s82 wr=>∃ (k c:Nat) (done:List Nat),s82=.int .i64 k∧s11=.int .u64 c∧k≤m+2∧c≤1∧done.length=k∧Wd done ∧
     val done+c * 4294967296 ^ k=val (u'.take k)+val (lv.take k) ∧
     Blk wr g 43 (U32 ((pre ++ done) ++ (u'.drop k ++ post)))∧w.grownBy wr (some g)) (fun _ i _=>m+2 - (intOf i).toNat)
   case atStart=>exact ⟨0,0,[],rfl,rfl,by omega,by omega,rfl,Wd.nil,by simp [val],by simpa using HB3.o,HG3.o⟩
   case round =>
    obtain ⟨k,c,done,rfl,rfl,hk,hc,hdl,hdw,hv,B,hg⟩:=hrel;have Hdl:=qh hdl;have Hv:=qh hv;have V:=HV.o.grown hg hne;have hpl:(pre ++ done).length=o+k:=by rw [List.length_append,Ho.o,Hdl.o]
    clear hdl hv;have hdr:=drop_cons_getD u' k (by rw [Hul.o];omega);rw [hdr,List.cons_append] at B;have hcu2:=(B.cell (o+k)).trans (U32_get _ (o+k) (by simp [Hdl.o,Ho.o]));rw [getD_mid _ _ _ _ hpl] at hcu2;have hfu:=B.frozen (o+k);have hus:=huw.getD k;by_cases hkn:k<m+2
    ·have hcv2:=(V.cell k).trans (U32_get _ k (by simp [Hn.o];omega));have e:(lv ++ ev).getD k 0=lv.getD k 0:=by rw [List.getD_eq_getElem?_getD,List.getD_eq_getElem?_getD,List.getElem?_append_left (by rw [Hn.o];omega)]
     rw [e] at hcv2;have hvs:=hvd.getD k;have hR:=add_round Hdl.o Hv.o;generalize u'.getD k 0=z at *
     generalize lv.getD k 0=y at *
     have HR:=qh hR;have HB:=qh B;have Hg:=qh hg;have Hpl:=qh hpl;have hkn':(k:Int)<(m:Int)+2:=by omega
     have h64:IntKind.u64.wrap ((z:Int)+y)=(z:Int)+y:=IntWalk.u64_in _ ⟨by omega,by omega⟩;have h64b:IntKind.u64.wrap ((c:Int)+((z:Int)+y))=(c:Int)+((z:Int)+y):=IntWalk.u64_in _ ⟨by omega,by omega⟩;clear hR B V hg hpl e hdr;go_wp2_with fail;go_quiet (fail);go_wp2_with fail;refine ⟨⟨k+1,(c+(z+y)) / 4294967296,done ++ [(c+(z+y)) % 4294967296],by go_num,by go_num,by omega,by omega,by rw [List.length_append,Hdl.o];rfl,hdw.append (Wd.one (by omega)),HR.o,?_,grown_set (grown_drewN Hg.o _) _ _⟩,by simp [intOf];omega⟩;have h:=(HB.o.drewN nq).put (o+k) (.int .u32 (((c+(z+y)) % 4294967296:Nat):Int));rw [U32_set,set_mid _ _ _ _ _ Hpl.o] at h;have e:((((c+(z+y)) % 4294967296:Nat)):Int)=((c:Int)+((z:Int)+y)) % 4294967296:=by omega
     rw [e] at h;simpa [List.append_assoc] using h
    ·obtain rfl:k=m+2:=by omega
     have hdn:u'.drop (m+2+1)=[]:=List.drop_of_length_le (by rw [Hul.o];omega);rw [hdn,List.nil_append] at B;obtain ⟨z,hz⟩:∃ z,z=u'.getD (m+2) 0:=⟨_,rfl⟩;rw [← hz] at hcu2 hus
     have hE:(z+c) % 4294967296=0∧val (done ++ [0])=val u % val lv:=by
      have h:=Hv.o;rw [List.take_of_length_le (l:=lv) (by rw [Hn.o];omega)] at h;refine addback_end Hdl.o hdw Hul.o hz hus hc h Huv.o H2.o ?_;have h5:=val_lt lv hvd;rw [Hn.o] at h5
      have h6:0<val lv:=by
       rcases Nat.eq_zero_or_pos (val lv) with h|h
       ·have:=HW.o;rw [h] at this;omega
       ·exact h
      exact Nat.lt_trans (Nat.mod_lt _ h6) h5
     have hzc:((z:Int)+(c:Int)) % 4294967296=0:=by have:=hE.1;omega
     have HE:=qh hE.2;have HB:=qh B;have Hg:=qh hg;have Hpl:=qh hpl;have hc':(c:Int)<4294967296:=by omega
     have hqq:(q:Int) - 1<4294967296:=by omega
     clear hE B V hg hpl hz hdn hdr
     go_wp2
     go_ret
     refine ⟨done ++ [0],?_,?_,by rw [List.length_append,Hdl.o];rfl,hdw.append (Wd.one (by omega)),HE.o,grown_set Hg.o _ _⟩
     ·rw [H1.o];show Ending.returned (.int .u32 ((q:Int) - 1))=_;rw [Int.natCast_sub hq1]
      rfl
     ·have h:=HB.o.put (o+(m+2)) (.int .u32 ((0:Nat):Int));rw [U32_set,set_mid _ _ _ _ _ Hpl.o] at h;simpa [List.append_assoc] using h
end Go.Proofs.YtdgleeglndcjhaaGreatDoor
