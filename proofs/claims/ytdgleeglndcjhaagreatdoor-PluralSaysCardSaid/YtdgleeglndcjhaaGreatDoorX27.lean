import Derived.Test.YtdgleeglndcjhaaGreatDoorX26
set_option linter.unusedSimpArgs false
set_option linter.unusedVariables false
set_option maxHeartbeats 8000000
set_option maxRecDepth 100000
namespace Go.Proofs.YtdgleeglndcjhaaGreatDoor
open Go.RowKit
theorem IL.take {w:World} {A:Option Addr} {n c:Nat} {l:List Nat} (h:IL w A n c l) (m:Nat) (hm:m≤l.length):IL w A m c (l.take m):=by
 obtain rfl:=h.len;have h1:=SlC.take h m hm;have e:(l.take m).length=m:=by rw [List.length_take];omega
 unfold IL;rw [e,List.map_take];simpa using h1
theorem trim4_nil:trim4 []=[]:=by unfold trim4;simp
theorem trim4_zero {l:List Nat} {m:Nat} (h:l[m]?=some 0):trim4 (l.take (m+1))=trim4 (l.take m):=by
 have hlt:=(List.getElem?_eq_some_iff.1 h).1;have e:l.take (m+1)=l.take m ++ [0]:=by rw [List.take_add_one,h];rfl
 rw [e,trim4];rw [if_neg (by simp),if_pos (by simp),List.dropLast_concat]
theorem trim4_stop {l:List Nat} {m x:Nat} (h:l[m]?=some x) (hx:x≠0):trim4 (l.take (m+1))=l.take (m+1):=by
 have e:l.take (m+1)=l.take m ++ [x]:=by rw [List.take_add_one,h];rfl
 rw [e,trim4];rw [if_neg (by simp),if_neg (by simp;exact hx)]
theorem ref_trim (w:World) (A:Option Addr) (n c:Nat) (l:List Nat) (h:IL w A n c l) (hl:l.length≤1000000) :
  Calls Tryz.prog 124 #[.slice A n c] w fun e w'=>∃ m,e=.returned (.slice A m c)∧IL w' A m c (trim4 l)∧w'=w:=by
 obtain rfl:n=l.length:=h.len;have HX:=qh h;have hcap:l.length≤c:=by obtain ⟨A',c',h1,h2,-⟩:=h;obtain ⟨-,-,rfl⟩:=Value.slice.inj h1;exact h2
 clear h;go_enter Tryz.func124,Tryz.ntmps124;go_wp2_with fail;go_loop [0] (fun v=>∃ m:Nat,m≤l.length∧v=.slice A m c∧trim4 (l.take m)=trim4 l) (fun v=>match v with|.slice _ m _=>m|_=>0)
 case atStart=>exact ⟨l.length,ql,rfl,by rw [List.take_length]⟩
 case round =>
  obtain ⟨m,hm,rfl,ht⟩:=hrel;have HT:=qh ht;have HM:=qh (HX.o.take m hm);clear ht;cases m with
  | zero =>
   go_wp2_with fail;go_ret
   exact ⟨0,rfl,by rw [← HT.o,List.take_zero,trim4_nil];simpa using HM.o,rfl⟩
  | succ m =>
   obtain ⟨b,o,rfl,hc⟩:=HX.o.at (by omega);obtain ⟨x,hx⟩:∃ x,l[m]?=some x:=⟨l[m]'(by omega),List.getElem?_eq_getElem _⟩;have k0:=hc m x hx;have HXX:=qh hx;have hmI:(0:Int)<((m+1:Nat):Int):=by omega
   have hm0:(0:Int)≤(m:Int):=by omega
   have hmc:(m:Int)≤(c:Int):=by omega
   clear hc hx;by_cases h0:x=0
   ·have h0I:((x:Int) == 0)=true:=by rw [beq_iff_eq];omega
    have hst:trim4 (l.take m)=trim4 l:=by rw [← trim4_zero (m:=m) (by rw [HXX.o,h0]),HT.o]
    have HST:=qh hst;clear h0 hst;go_wp2_with fail;go_round
    case rel=>exact ⟨m,by omega,rfl,HST.o⟩
    case measure=>simp
   ·have h0I:((x:Int) == 0)=false:=by rw [beq_eq_false_iff_ne];omega
    have hst:trim4 l=l.take (m+1):=by rw [← HT.o,trim4_stop HXX.o h0]
    have HST:=qh hst;clear h0 hst;go_wp2_with fail;go_ret
    exact ⟨m+1,rfl,by rw [HST.o];exact HM.o,rfl⟩
def D4 (w:World) (A:Option Addr) (n c k:Nat):Prop:=IL w A n c (d4 k)∧(A=none→c=0)
theorem D4.below {w w':World} {A:Option Addr} {n c k B:Nat} (h:D4 w A n c k) (hb:Below B w w') (hB:w.heap.size≤B):D4 w' A n c k:=⟨SlC.below h.1 hb hB,h.2⟩
def RetD4 (e:Ending) (w':World) (k:Nat):Prop:=∃ A n c,e=.returned (.slice A n c)∧D4 w' A n c k
theorem ref_trimD (w:World) (A:Option Addr) (n c:Nat) (l:List Nat) (h:IL w A n c l) (hA:A=none→c=0) (hw:W4 l) (hl:l.length≤1000000) :
  Calls Tryz.prog 124 #[.slice A n c] w fun e w'=>RetD4 e w' (v4 l)∧w'=w :=
 (ref_trim w A n c l h hl).mono fun e w' ⟨m,he,h1,h2⟩=>⟨⟨A,m,c,he,by rw [← trim_d4 hw];exact h1,hA⟩,h2⟩
theorem Tryz_info3':(Tryz.prog.info? 3).map (fun i=>(i.zero,i.size,i.bytes))=some (some (.int .i64 0),1,8):=by kernel_rfl
abbrev nums (l:List Nat):List Value:=l.map fun x:Nat=>Value.int .i64 (x:Int)
def OwnN (w:World) (B:Nat) (v:Value) (l:List Nat):Prop:=w.ownsRow B 3 1 v l.length (nums l)
theorem OwnN.il {w:World} {B:Nat} {v:Value} {l:List Nat} (h:OwnN w B v l):∃ A c,v=.slice A l.length c∧IL w A l.length c l∧(A=none→c=0):=by
 have h1:=SlC.own h;obtain ⟨A,c,rfl,-⟩:=h1;refine ⟨A,c,rfl,SlC.own h,fun hA=>?_⟩;rcases h.2 with ⟨h2,-⟩|⟨g,cap,cur,h2,-⟩
 ·exact (Value.slice.inj h2).2.2
 ·subst hA;cases (Value.slice.inj h2).1
theorem ownN_push {w1:World} {B g cap:Nat} {l:List Nat} {x:Nat} (ho:w1.ownsRow B 3 1 (.slice (some ⟨g,0,none⟩) (l.length+1) cap) (l.length+1) (nums l ++ [.int .i64 (x:Int)])):OwnN w1 B (.slice (some ⟨g,0,none⟩) (l.length+1) cap) (l ++ [x]):=by
 unfold OwnN;rw [List.length_append,nums,List.map_append];exact ho
theorem ref_Small (w:World) (n:Nat) (hn:n<18446744073709551616) :
  Calls Tryz.prog 77 #[.int .u64 n] w fun e w'=>RetD4 e w' n∧Below w.heap.size w w':=by
 obtain ⟨i3,hi3,hz0,hz1,hz2⟩:=info_parts Tryz_info3';have hmx:=maxLen_ge;go_enter Tryz.func77,Tryz.ntmps77;go_wp2_with fail;go_loopw [0,3] (fun q v wr=>∃ (k:Nat) (acc:List Nat),q=.int .u64 k∧k<18446744073709551616∧OwnN wr w.heap.size v acc∧acc ++ d4 k=d4 n∧acc.length+(d4 k).length≤10∧Below w.heap.size w wr) (fun q _ _=>(intOf q).toNat)
 case atStart=>exact ⟨n,[],rfl,hn,World.ownsRow_nil _ _ _ _,rfl,by have:=d4_len (k:=n) (n:=5) (by omega);simp;omega,Below.refl _ _⟩
 case round =>
  obtain ⟨k,acc,rfl,hk,ho,hacc,hal,hb⟩:=hrel;obtain ⟨wo,rfl⟩:∃ wo:World,wo=wr:=⟨_,rfl⟩;have HO:=qh ho;have HB:=qh hb;have HACC:=qh hacc;have hsz:=hb.size;clear ho hb hacc;by_cases h0:0<k
  case neg =>
   have hI:¬ (0:Int)<(k:Int):=by omega
   obtain ⟨VA,vc,hvf,hil,hno⟩:=HO.o.il;have HNO:=qh hno;subst hvf;have hfin:D4 wo VA acc.length vc n:=by have h:=HACC.o;rw [show k=0 by omega,d4_zero,List.append_nil] at h;refine ⟨?_,hno⟩;rw [← h];exact hil
   have HF:=qh hfin;clear hfin hil hno;go_wp2_with fail;go_ret
   exact ⟨⟨VA,_,vc,rfl,HF.o⟩,HB.o⟩
  have hI:(0:Int)<(k:Int):=by omega
  have hst:(acc ++ [k % 10000]) ++ d4 (k / 10000)=d4 n:=by have h:=HACC.o;rw [d4_pos (by omega)] at h;rw [← h];simp
  have hst2:(d4 k).length=(d4 (k / 10000)).length+1:=by rw [d4_pos (by omega)];rfl
  have HST:=qh hst;have hac:acc.length≤10:=by omega
  obtain ⟨r,hr⟩:∃ r,k % 10000=r:=⟨_,rfl⟩;obtain ⟨q,hq⟩:∃ q,k / 10000=q:=⟨_,rfl⟩;have hrI:(k:Int) % 10000=(r:Int):=by omega
  have hqI:(k:Int) / 10000=(q:Int):=by omega
  have HR:=qh hr;have HQ:=qh hq;have hql:q<k:=by omega
  clear hst hr hq;go_wp2_with (at_builtin;refine wpList_append_lies _ (by rfl) _ _ 66 (by rfl) w.heap.size 3 i3 (.int .i64 0) 1 8 Tryz.underlying66 hi3 hz0 hz1 hz2 rfl (by decide) u3 acc.length (nums acc) (by rfl) (World.ownsRow.alloc HO.o _) ⟨wo.heap.size,0,none⟩ 1 1 [.int .i64 (r:Int)] (by rfl) rfl (cell_one_new _ _ _) (by simp [Value.oneCell']) (by omega) (by omega) (by omega) (by simp;omega) (wo.heap.size+1) (by simp) ?_;intro g' cap' w1 hown hgrow hat hlt';have HO7:=qh hown;have HG7:=qh hgrow;clear hown hgrow hat)
  go_roundw
  case rel =>
   refine ⟨q,acc ++ [r],rfl,by omega,ownN_push HO7.o,by have h:=HST.o;rw [HR.o,HQ.o] at h;exact h,?_,below_grown (HB.o.alloc HB.o.size _) HG7.o (Nat.le_trans HB.o.size (by simp)) (fun j hj=>(World.ownsRow.lt HO.o j hj).1)⟩;have h:=HQ.o;rw [h] at hst2;simp;omega
  case measure=>simp [intOf];omega
theorem ref_at (w:World) (A:Option Addr) (n c i:Nat) (l:List Nat) (h:IL w A n c l) (hl:l.length≤1000000) :
  Calls Tryz.prog 123 #[.slice A n c,.int .i64 (i:Int)] w fun e w'=>e=.returned (.int .i64 (l.getD i 0:Nat))∧w'=w:=by
 obtain rfl:n=l.length:=h.len;by_cases hi:i<l.length
 ·obtain ⟨b,o,rfl,hc⟩:=h.at (by omega);have hx:l[i]?=some (l.getD i 0):=by rw [List.getD_eq_getElem?_getD,List.getElem?_eq_getElem hi];rfl
  have k0:=hc i _ hx;generalize l.getD i 0=x at *
  have hI:(i:Int)<(l.length:Int):=by omega
  have hi0:(0:Int)≤(i:Int):=by omega
  clear h hc hx;go_enter Tryz.func123,Tryz.ntmps123;go_wp2_with fail;go_ret
  exact ⟨rfl,rfl⟩
 ·have hx:l.getD i 0=0:=by rw [List.getD_eq_getElem?_getD,List.getElem?_eq_none (by omega)];rfl
  rw [hx];have hI:¬ (i:Int)<(l.length:Int):=by omega
  clear h hx;go_enter Tryz.func123,Tryz.ntmps123;go_wp2_with fail;go_ret
  exact ⟨rfl,rfl⟩
theorem drop_step (l:List Nat) (i:Nat):v4 (l.drop i)=l.getD i 0+10000 * v4 (l.drop (i+1)):=by
 by_cases h:i<l.length
 ·rw [List.drop_eq_getElem_cons h,v4,List.getD_eq_getElem?_getD,List.getElem?_eq_getElem h];rfl
 ·rw [List.drop_eq_nil_of_le (by omega),List.drop_eq_nil_of_le (by omega),List.getD_eq_getElem?_getD,List.getElem?_eq_none (by omega)];rfl
theorem getD_lt4 {l:List Nat} (h:W4 l) (i:Nat):l.getD i 0<10000:=by
 by_cases hi:i<l.length
 ·rw [List.getD_eq_getElem?_getD,List.getElem?_eq_getElem hi];exact h _ (List.getElem_mem hi)
 ·rw [List.getD_eq_getElem?_getD,List.getElem?_eq_none (by omega)];simp
theorem add_step {acc:List Nat} {x y A B c s N:Nat} (h:v4 acc+10000 ^ acc.length * (c+(x+10000 * A)+(y+10000 * B))=N) (hs:s=x+y+c):v4 (acc ++ [s % 10000])+10000 ^ (acc ++ [s % 10000]).length * (s / 10000+A+B)=N:=by
 rw [v4_app,List.length_append,List.length_singleton,Nat.pow_succ,← h];simp only [v4,Nat.mul_zero,Nat.add_zero];rw [Nat.add_assoc,Nat.mul_assoc,← Nat.mul_add]
 congr 2
 omega
theorem add_carry {x y n k p la lb cr:Nat} (hx:x<10000 ^ la) (hy:y<10000 ^ lb) (ha:la≤p) (hb:lb≤p) (hk:p+1≤k) (h:n+10000 ^ k * (cr+v4 []+v4 [])=x+y):cr=0:=by
 have h1:10000 ^ la≤10000 ^ p:=Nat.pow_le_pow_right (by omega) ha;have h2:10000 ^ lb≤10000 ^ p:=Nat.pow_le_pow_right (by omega) hb;have h3:10000 ^ (p+1)≤10000 ^ k:=Nat.pow_le_pow_right (by omega) hk;rw [Nat.pow_succ] at h3;simp only [v4,Nat.add_zero] at h;rcases Nat.eq_zero_or_pos cr with h0|h0
 ·exact h0
 ·have h4:10000 ^ k * 1≤10000 ^ k * cr:=Nat.mul_le_mul_left _ h0;generalize 10000 ^ p=P at *
  generalize 10000 ^ k * cr=Q at *
  omega
theorem ref_Add (w:World) (A B:Option Addr) (n c m d x y:Nat) (h:D4 w A n c x) (h':D4 w B m d y) (hl:(d4 x).length≤100000) (hl':(d4 y).length≤100000) :
  Calls Tryz.prog 78 #[.slice A n c,.slice B m d] w fun e w'=>RetD4 e w' (x+y)∧Below w.heap.size w w':=by
 obtain ⟨i3,hi3,hz0,hz1,hz2⟩:=info_parts Tryz_info3';have hmx:=maxLen_ge;obtain rfl:n=(d4 x).length:=h.1.len;obtain rfl:m=(d4 y).length:=h'.1.len;obtain ⟨a,ha⟩:∃ a,d4 x=a:=⟨_,rfl⟩;obtain ⟨b,hb⟩:∃ b,d4 y=b:=⟨_,rfl⟩;replace h:=h.1;replace h':=h'.1;have hva:v4 a=x:=by rw [← ha,v4_d4]
 have hvb:v4 b=y:=by rw [← hb,v4_d4]
 have hwa:W4 a:=by rw [← ha];exact w4_d4 x
 have hwb:W4 b:=by rw [← hb];exact w4_d4 y
 rw [ha] at h hl ⊢;rw [hb] at h' hl' ⊢;have HA:=qh h;have HB:=qh h';have HWA:=qh hwa;have HWB:=qh hwb;have HVA:=qh hva;have HVB:=qh hvb;have hlI:(a.length:Int)≤100000:=by omega
 have hlJ:(b.length:Int)≤100000:=by omega
 clear h h' ha hb hva hvb hwa hwb;go_enter Tryz.func78,Tryz.ntmps78;go_wp2_with fail;go_loopw [5,6,7] (fun v cy i wr=>∃ (k cr:Nat) (acc:List Nat),i=.int .i64 k∧cy=.int .i64 cr∧cr≤1∧acc.length=k∧k≤100001∧OwnN wr w.heap.size v acc∧W4 acc∧v4 acc+10000 ^ acc.length * (cr+v4 (a.drop k)+v4 (b.drop k))=x+y∧Below w.heap.size w wr) (fun _ _ i _=>100002 - (intOf i).toNat)
 case atStart=>exact ⟨0,0,[],rfl,rfl,by omega,rfl,by omega,World.ownsRow_nil _ _ _ _,(fun x hx=>by cases hx),by have h1:=HVA.o;have h2:=HVB.o;simp [v4];omega,Below.refl _ _⟩
 case round =>
  obtain ⟨k,cr,acc,rfl,rfl,hcr,hk,hk2,ho,hw4,hv,hbb⟩:=hrel;obtain ⟨wo,rfl⟩:∃ wo:World,wo=wr:=⟨_,rfl⟩;have HO:=qh ho;have HBB:=qh hbb;have HW:=qh hw4;have HV:=qh hv;have HK:=qh hk;have hal:acc.length≤100001:=by omega
  have hsz:=hbb.size;clear ho hbb hw4 hv hk
  have HKB:Hid (k<a.length∨k<b.length∨0<cr→k≤100000):=fun h=>by
   rcases h with h|h|h
   ·omega
   ·omega
   ·have h1:=HV.o;by_cases hk3:k≤100000
    ·exact hk3
    ·exfalso;have e:=HK.o;rw [List.drop_eq_nil_of_le (by omega),List.drop_eq_nil_of_le (by omega),e] at h1;have hx:=v4_lt HWA.o;have hy:=v4_lt HWB.o;rw [HVA.o] at hx;rw [HVB.o] at hy;have:=add_carry (p:=100000) hx hy hl hl' (by omega) h1;omega
  by_cases hka:k<a.length
  ·have hkaI:(k:Int)<(a.length:Int):=by omega
   have HKL:Hid (k≤100000):=HKB.o (.inl hka);obtain ⟨xa,hxa⟩:∃ xa,a.getD k 0=xa:=⟨_,rfl⟩;obtain ⟨xb,hxb⟩:∃ xb,b.getD k 0=xb:=⟨_,rfl⟩;have hxa4:xa<10000:=by rw [← hxa];exact getD_lt4 HWA.o k
   have hxb4:xb<10000:=by rw [← hxb];exact getD_lt4 HWB.o k
   have HXA:=qh hxa;have HXB:=qh hxb;obtain ⟨t,ht⟩:∃ t,t=xa+xb:=⟨_,rfl⟩;obtain ⟨s,hs⟩:∃ s,s=t+cr:=⟨_,rfl⟩;obtain ⟨r,hr⟩:∃ r,s % 10000=r:=⟨_,rfl⟩;obtain ⟨q,hq⟩:∃ q,s / 10000=q:=⟨_,rfl⟩;have htI:(xa:Int)+(xb:Int)=(t:Int):=by omega
   have hsI:(t:Int)+(cr:Int)=(s:Int):=by omega
   have hrI:(s:Int).tmod 10000=(r:Int):=by rw [Int.tmod_eq_emod_of_nonneg (by omega)];omega
   have hqI:(s:Int).tdiv 10000=(q:Int):=by rw [Int.tdiv_eq_ediv_of_nonneg (by omega)];omega
   have ht2:t≤19998:=by omega
   have hs2:s≤19999:=by omega
   have hr2:r<10000:=by omega
   have hq2:q≤1:=by omega
   have HS:=qh hs;have HT:=qh ht;have HR:=qh hr;have HQ:=qh hq;clear hxa hxb ht hs hr hq;go_wp2_with fail;refine (ref_at wo A a.length c k a (HA.o.below HBB.o ql) (by omega)).mono ?_;rw [HXA.o];rintro e w1 ⟨rfl,h1⟩;subst w1;dsimp only;go_wp2_with fail;refine (ref_at wo B b.length d k b (HB.o.below HBB.o ql) (by omega)).mono ?_;rw [HXB.o];rintro e w1 ⟨rfl,h1⟩;subst w1;dsimp only;go_wp2_with (at_builtin;refine wpList_append_lies _ (by rfl) _ _ 66 (by rfl) w.heap.size 3 i3 (.int .i64 0) 1 8 Tryz.underlying66 hi3 hz0 hz1 hz2 rfl (by decide) u5 acc.length (nums acc) (by rfl) (World.ownsRow.alloc HO.o _) ⟨wo.heap.size,0,none⟩ 1 1 [.int .i64 (r:Int)] (by rfl) rfl (cell_one_new _ _ _) (by simp [Value.oneCell']) (by omega) (by omega) (by omega) (by simp;omega) (wo.heap.size+1) (by simp) ?_;intro g' cap' w1 hown hgrow hat hlt';have HO7:=qh hown;have HG7:=qh hgrow;clear hown hgrow hat)
   go_roundw
   case rel =>
    refine ⟨k+1,q,acc ++ [r],by go_num,rfl,hq2,by have:=HK.o;simp;omega,by have:=HKL.o;have:=HK.o;omega,ownN_push HO7.o,?_,?_,below_grown (HBB.o.alloc HBB.o.size _) HG7.o (Nat.le_trans HBB.o.size (by simp)) (fun j hj=>(World.ownsRow.lt HO.o j hj).1)⟩
    ·intro x hx;rcases List.mem_append.1 hx with h|h
     ·exact HW.o x h
     ·obtain rfl:=List.mem_singleton.1 h;exact hr2
    ·have h:=HV.o;rw [drop_step a k,drop_step b k,HXA.o,HXB.o] at h;have h2:=add_step h (s:=s) (by have:=HS.o;have:=HT.o;omega);rw [HR.o,HQ.o] at h2;exact h2
   case measure=>have:=HKL.o;simp [intOf];omega
  have hkaI:¬ (k:Int)<(a.length:Int):=by omega
  by_cases hkb:k<b.length
  ·have hkbI:(k:Int)<(b.length:Int):=by omega
   have HKL:Hid (k≤100000):=HKB.o (.inr (.inl hkb));obtain ⟨xa,hxa⟩:∃ xa,a.getD k 0=xa:=⟨_,rfl⟩;obtain ⟨xb,hxb⟩:∃ xb,b.getD k 0=xb:=⟨_,rfl⟩;have hxa4:xa<10000:=by rw [← hxa];exact getD_lt4 HWA.o k
   have hxb4:xb<10000:=by rw [← hxb];exact getD_lt4 HWB.o k
   have HXA:=qh hxa;have HXB:=qh hxb;obtain ⟨t,ht⟩:∃ t,t=xa+xb:=⟨_,rfl⟩;obtain ⟨s,hs⟩:∃ s,s=t+cr:=⟨_,rfl⟩;obtain ⟨r,hr⟩:∃ r,s % 10000=r:=⟨_,rfl⟩;obtain ⟨q,hq⟩:∃ q,s / 10000=q:=⟨_,rfl⟩;have htI:(xa:Int)+(xb:Int)=(t:Int):=by omega
   have hsI:(t:Int)+(cr:Int)=(s:Int):=by omega
   have hrI:(s:Int).tmod 10000=(r:Int):=by rw [Int.tmod_eq_emod_of_nonneg (by omega)];omega
   have hqI:(s:Int).tdiv 10000=(q:Int):=by rw [Int.tdiv_eq_ediv_of_nonneg (by omega)];omega
   have ht2:t≤19998:=by omega
   have hs2:s≤19999:=by omega
   have hr2:r<10000:=by omega
   have hq2:q≤1:=by omega
   have HS:=qh hs;have HT:=qh ht;have HR:=qh hr;have HQ:=qh hq;clear hxa hxb ht hs hr hq;go_wp2_with fail;refine (ref_at wo A a.length c k a (HA.o.below HBB.o ql) (by omega)).mono ?_;rw [HXA.o];rintro e w1 ⟨rfl,h1⟩;subst w1;dsimp only;go_wp2_with fail;refine (ref_at wo B b.length d k b (HB.o.below HBB.o ql) (by omega)).mono ?_;rw [HXB.o];rintro e w1 ⟨rfl,h1⟩;subst w1;dsimp only;go_wp2_with (at_builtin;refine wpList_append_lies _ (by rfl) _ _ 66 (by rfl) w.heap.size 3 i3 (.int .i64 0) 1 8 Tryz.underlying66 hi3 hz0 hz1 hz2 rfl (by decide) u5 acc.length (nums acc) (by rfl) (World.ownsRow.alloc HO.o _) ⟨wo.heap.size,0,none⟩ 1 1 [.int .i64 (r:Int)] (by rfl) rfl (cell_one_new _ _ _) (by simp [Value.oneCell']) (by omega) (by omega) (by omega) (by simp;omega) (wo.heap.size+1) (by simp) ?_;intro g' cap' w1 hown hgrow hat hlt';have HO7:=qh hown;have HG7:=qh hgrow;clear hown hgrow hat)
   go_roundw
   case rel =>
    refine ⟨k+1,q,acc ++ [r],by go_num,rfl,hq2,by have:=HK.o;simp;omega,by have:=HKL.o;have:=HK.o;omega,ownN_push HO7.o,?_,?_,below_grown (HBB.o.alloc HBB.o.size _) HG7.o (Nat.le_trans HBB.o.size (by simp)) (fun j hj=>(World.ownsRow.lt HO.o j hj).1)⟩
    ·intro x hx;rcases List.mem_append.1 hx with h|h
     ·exact HW.o x h
     ·obtain rfl:=List.mem_singleton.1 h;exact hr2
    ·have h:=HV.o;rw [drop_step a k,drop_step b k,HXA.o,HXB.o] at h;have h2:=add_step h (s:=s) (by have:=HS.o;have:=HT.o;omega);rw [HR.o,HQ.o] at h2;exact h2
   case measure=>have:=HKL.o;simp [intOf];omega
  have hkbI:¬ (k:Int)<(b.length:Int):=by omega
  by_cases hkc:0<cr
  ·have hkcI:(0:Int)<(cr:Int):=by omega
   have HKL:Hid (k≤100000):=HKB.o (.inr (.inr hkc));obtain ⟨xa,hxa⟩:∃ xa,a.getD k 0=xa:=⟨_,rfl⟩;obtain ⟨xb,hxb⟩:∃ xb,b.getD k 0=xb:=⟨_,rfl⟩;have hxa4:xa<10000:=by rw [← hxa];exact getD_lt4 HWA.o k
   have hxb4:xb<10000:=by rw [← hxb];exact getD_lt4 HWB.o k
   have HXA:=qh hxa;have HXB:=qh hxb;obtain ⟨t,ht⟩:∃ t,t=xa+xb:=⟨_,rfl⟩;obtain ⟨s,hs⟩:∃ s,s=t+cr:=⟨_,rfl⟩;obtain ⟨r,hr⟩:∃ r,s % 10000=r:=⟨_,rfl⟩;obtain ⟨q,hq⟩:∃ q,s / 10000=q:=⟨_,rfl⟩;have htI:(xa:Int)+(xb:Int)=(t:Int):=by omega
   have hsI:(t:Int)+(cr:Int)=(s:Int):=by omega
   have hrI:(s:Int).tmod 10000=(r:Int):=by rw [Int.tmod_eq_emod_of_nonneg (by omega)];omega
   have hqI:(s:Int).tdiv 10000=(q:Int):=by rw [Int.tdiv_eq_ediv_of_nonneg (by omega)];omega
   have ht2:t≤19998:=by omega
   have hs2:s≤19999:=by omega
   have hr2:r<10000:=by omega
   have hq2:q≤1:=by omega
   have HS:=qh hs;have HT:=qh ht;have HR:=qh hr;have HQ:=qh hq;clear hxa hxb ht hs hr hq;go_wp2_with fail;refine (ref_at wo A a.length c k a (HA.o.below HBB.o ql) (by omega)).mono ?_;rw [HXA.o];rintro e w1 ⟨rfl,h1⟩;subst w1;dsimp only;go_wp2_with fail;refine (ref_at wo B b.length d k b (HB.o.below HBB.o ql) (by omega)).mono ?_;rw [HXB.o];rintro e w1 ⟨rfl,h1⟩;subst w1;dsimp only;go_wp2_with (at_builtin;refine wpList_append_lies _ (by rfl) _ _ 66 (by rfl) w.heap.size 3 i3 (.int .i64 0) 1 8 Tryz.underlying66 hi3 hz0 hz1 hz2 rfl (by decide) u5 acc.length (nums acc) (by rfl) (World.ownsRow.alloc HO.o _) ⟨wo.heap.size,0,none⟩ 1 1 [.int .i64 (r:Int)] (by rfl) rfl (cell_one_new _ _ _) (by simp [Value.oneCell']) (by omega) (by omega) (by omega) (by simp;omega) (wo.heap.size+1) (by simp) ?_;intro g' cap' w1 hown hgrow hat hlt';have HO7:=qh hown;have HG7:=qh hgrow;clear hown hgrow hat)
   go_roundw
   case rel =>
    refine ⟨k+1,q,acc ++ [r],by go_num,rfl,hq2,by have:=HK.o;simp;omega,by have:=HKL.o;have:=HK.o;omega,ownN_push HO7.o,?_,?_,below_grown (HBB.o.alloc HBB.o.size _) HG7.o (Nat.le_trans HBB.o.size (by simp)) (fun j hj=>(World.ownsRow.lt HO.o j hj).1)⟩
    ·intro x hx;rcases List.mem_append.1 hx with h|h
     ·exact HW.o x h
     ·obtain rfl:=List.mem_singleton.1 h;exact hr2
    ·have h:=HV.o;rw [drop_step a k,drop_step b k,HXA.o,HXB.o] at h;have h2:=add_step h (s:=s) (by have:=HS.o;have:=HT.o;omega);rw [HR.o,HQ.o] at h2;exact h2
   case measure=>have:=HKL.o;simp [intOf];omega
  have hkcI:¬ (0:Int)<(cr:Int):=by omega
  obtain ⟨VA,vc,hvf,hil,hno⟩:=HO.o.il;have HNO:=qh hno;subst hvf
  have hsum:v4 acc=x+y:=by
   have h:=HV.o;rw [List.drop_eq_nil_of_le (by omega),List.drop_eq_nil_of_le (by omega),show cr=0 by omega] at h;simpa [v4] using h
  have HSUM:=qh hsum;have HIL:=qh hil;clear hsum hil hno;go_wp2_with fail;refine (ref_trimD wo VA acc.length vc acc HIL.o HNO.o HW.o (by omega)).mono ?_;rw [HSUM.o];rintro e w1 ⟨⟨A1,n1,c1,rfl,hd⟩,h1⟩;subst w1;have HD:=qh hd;clear hd;dsimp only;go_wp2_with fail;go_ret
  exact ⟨⟨A1,n1,c1,rfl,HD.o⟩,HBB.o⟩
theorem sub_step {acc:List Nat} {X Y xa xb A B c c' s:Nat} (h:v4 acc+10000 ^ acc.length * (xa+10000 * A)+Y=X+10000 ^ acc.length * (c+(xb+10000 * B))) (hs:s+xb+c=xa+10000 * c'):v4 (acc ++ [s])+10000 ^ (acc ++ [s]).length * A+Y=X+10000 ^ (acc ++ [s]).length * (c'+B):=by
 rw [v4_app,List.length_append,List.length_singleton,Nat.pow_succ];simp only [v4,Nat.mul_zero,Nat.add_zero];generalize 10000 ^ acc.length=P at *
 have e:=congrArg (P * ·) hs;simp only [Nat.mul_add] at h e ⊢;have e1:P * 10000 * A=P * (10000 * A):=Nat.mul_assoc _ _ _;have e2:P * 10000 * B=P * (10000 * B):=Nat.mul_assoc _ _ _;have e3:P * 10000 * c'=P * (10000 * c'):=Nat.mul_assoc _ _ _;rw [e1,e2,e3];omega
theorem sub4_end {acc:List Nat} {X Y c B:Nat} (hw:W4 acc) (hle:Y≤X) (h:v4 acc+10000 ^ acc.length * v4 []+Y=X+10000 ^ acc.length * (c+B)):v4 acc=X - Y:=by
 have h1:=v4_lt hw;simp only [v4,Nat.mul_zero,Nat.add_zero] at h;rcases Nat.eq_zero_or_pos (c+B) with h0|h0
 ·rw [h0] at h;omega
 ·have h4:10000 ^ acc.length * 1≤10000 ^ acc.length * (c+B):=Nat.mul_le_mul_left _ h0;generalize 10000 ^ acc.length * (c+B)=Q at *
  generalize 10000 ^ acc.length=P at *
  omega
theorem ref_Sub (w:World) (A B:Option Addr) (n c m d x y:Nat) (h:D4 w A n c x) (h':D4 w B m d y) (hl:(d4 x).length≤100000) (hl':(d4 y).length≤100000) (hyx:y≤x) :
  Calls Tryz.prog 212 #[.slice A n c,.slice B m d] w fun e w'=>RetD4 e w' (x - y)∧Below w.heap.size w w':=by
 obtain ⟨i3,hi3,hz0,hz1,hz2⟩:=info_parts Tryz_info3';have hmx:=maxLen_ge;obtain rfl:n=(d4 x).length:=h.1.len;obtain rfl:m=(d4 y).length:=h'.1.len;obtain ⟨a,ha⟩:∃ a,d4 x=a:=⟨_,rfl⟩;obtain ⟨b,hb⟩:∃ b,d4 y=b:=⟨_,rfl⟩;replace h:=h.1;replace h':=h'.1;have hva:v4 a=x:=by rw [← ha,v4_d4]
 have hvb:v4 b=y:=by rw [← hb,v4_d4]
 have hwa:W4 a:=by rw [← ha];exact w4_d4 x
 have hwb:W4 b:=by rw [← hb];exact w4_d4 y
 rw [ha] at h hl ⊢;rw [hb] at h' hl' ⊢;have HA:=qh h;have HB:=qh h';have HWA:=qh hwa;have HWB:=qh hwb;have HVA:=qh hva;have HVB:=qh hvb;have HYX:=qh hyx;have hlI:(a.length:Int)≤100000:=by omega
 have hlJ:(b.length:Int)≤100000:=by omega
 clear h h' ha hb hva hvb hwa hwb hyx;go_enter Tryz.func212,Tryz.ntmps212;go_wp2_with fail;go_loopw [5,6,7] (fun v cy i wr=>∃ (k cr:Nat) (acc:List Nat),i=.int .i64 k∧cy=.int .i64 cr∧cr≤1∧acc.length=k∧k≤a.length∧OwnN wr w.heap.size v acc∧W4 acc∧v4 acc+10000 ^ acc.length * v4 (a.drop k)+y=x+10000 ^ acc.length * (cr+v4 (b.drop k))∧Below w.heap.size w wr) (fun _ _ i _=>100002 - (intOf i).toNat)
 case atStart=>exact ⟨0,0,[],rfl,rfl,by omega,rfl,by omega,World.ownsRow_nil _ _ _ _,(fun x hx=>by cases hx),by have h1:=HVA.o;have h2:=HVB.o;simp [v4];omega,Below.refl _ _⟩
 case round =>
  obtain ⟨k,cr,acc,rfl,rfl,hcr,hk,hk2,ho,hw4,hv,hbb⟩:=hrel;obtain ⟨wo,rfl⟩:∃ wo:World,wo=wr:=⟨_,rfl⟩;have HO:=qh ho;have HBB:=qh hbb;have HW:=qh hw4;have HV:=qh hv;have HK:=qh hk;have hal:acc.length≤100001:=by omega
  have hsz:=hbb.size;clear ho hbb hw4 hv hk;by_cases hka:k<a.length
  ·have hkaI:(k:Int)<(a.length:Int):=by omega
   obtain ⟨xa,hxa⟩:∃ xa,a.getD k 0=xa:=⟨_,rfl⟩;obtain ⟨xb,hxb⟩:∃ xb,b.getD k 0=xb:=⟨_,rfl⟩;have hxa4:xa<10000:=by rw [← hxa];exact getD_lt4 HWA.o k
   have hxb4:xb<10000:=by rw [← hxb];exact getD_lt4 HWB.o k
   have HXA:=qh hxa;have HXB:=qh hxb;obtain ⟨t,ht⟩:∃ t:Int,(xa:Int) - (xb:Int)=t:=⟨_,rfl⟩;obtain ⟨s,hs⟩:∃ s:Int,t - (cr:Int)=s:=⟨_,rfl⟩;have HS:=qh hs;have HT:=qh ht;have ht2:-10000<t:=by omega
   have ht3:t<10000:=by omega
   have hs2:-10001<s:=by omega
   have hs3:s<10000:=by omega
   clear hxa hxb;by_cases h0:s<0
   ·obtain ⟨r,hr⟩:∃ r:Nat,s+10000=(r:Int):=⟨(s+10000).toNat,by omega⟩;have HR:=qh hr;have hr2:r<10000:=by omega
    have HST:Hid (r+xb+cr=xa+10000 * 1):=by show _=_;omega
    go_wp2_with fail;refine (ref_at wo A a.length c k a (HA.o.below HBB.o ql) (by omega)).mono ?_;rw [HXA.o];rintro e w1 ⟨rfl,h1⟩;subst w1;dsimp only;go_wp2_with fail;refine (ref_at wo B b.length d k b (HB.o.below HBB.o ql) (by omega)).mono ?_;rw [HXB.o];rintro e w1 ⟨rfl,h1⟩;subst w1;dsimp only;go_wp2_with (at_builtin;refine wpList_append_lies _ (by rfl) _ _ 66 (by rfl) w.heap.size 3 i3 (.int .i64 0) 1 8 Tryz.underlying66 hi3 hz0 hz1 hz2 rfl (by decide) u5 acc.length (nums acc) (by rfl) (World.ownsRow.alloc HO.o _) ⟨wo.heap.size,0,none⟩ 1 1 [.int .i64 (r:Int)] (by rfl) rfl (cell_one_new _ _ _) (by simp [Value.oneCell']) (by omega) (by omega) (by omega) (by simp;omega) (wo.heap.size+1) (by simp) ?_;intro g' cap' w1 hown hgrow hat hlt';have HO7:=qh hown;have HG7:=qh hgrow;clear hown hgrow hat)
    go_roundw
    case rel =>
     refine ⟨k+1,1,acc ++ [r],by go_num,rfl,by omega,by have:=HK.o;simp;omega,by omega,ownN_push HO7.o,?_,?_,below_grown (HBB.o.alloc HBB.o.size _) HG7.o (Nat.le_trans HBB.o.size (by simp)) (fun j hj=>(World.ownsRow.lt HO.o j hj).1)⟩
     ·intro x hx;rcases List.mem_append.1 hx with h|h
      ·exact HW.o x h
      ·obtain rfl:=List.mem_singleton.1 h;exact hr2
     ·have h:=HV.o;rw [drop_step a k,drop_step b k,HXA.o,HXB.o] at h;exact sub_step h HST.o
    case measure=>simp [intOf];omega
   ·obtain ⟨r,hr⟩:∃ r:Nat,s=(r:Int):=⟨s.toNat,by omega⟩;have hr2:r<10000:=by omega
    have HST:Hid (r+xb+cr=xa+10000 * 0):=by show _=_;omega
    go_wp2_with fail;refine (ref_at wo A a.length c k a (HA.o.below HBB.o ql) (by omega)).mono ?_;rw [HXA.o];rintro e w1 ⟨rfl,h1⟩;subst w1;dsimp only;go_wp2_with fail;refine (ref_at wo B b.length d k b (HB.o.below HBB.o ql) (by omega)).mono ?_;rw [HXB.o];rintro e w1 ⟨rfl,h1⟩;subst w1;dsimp only;go_wp2_with (at_builtin;refine wpList_append_lies _ (by rfl) _ _ 66 (by rfl) w.heap.size 3 i3 (.int .i64 0) 1 8 Tryz.underlying66 hi3 hz0 hz1 hz2 rfl (by decide) u5 acc.length (nums acc) (by rfl) (World.ownsRow.alloc HO.o _) ⟨wo.heap.size,0,none⟩ 1 1 [.int .i64 (r:Int)] (by rfl) rfl (cell_one_new _ _ _) (by simp [Value.oneCell']) (by omega) (by omega) (by omega) (by simp;omega) (wo.heap.size+1) (by simp) ?_;intro g' cap' w1 hown hgrow hat hlt';have HO7:=qh hown;have HG7:=qh hgrow;clear hown hgrow hat)
    go_roundw
    case rel =>
     refine ⟨k+1,0,acc ++ [r],by go_num,rfl,by omega,by have:=HK.o;simp;omega,by omega,ownN_push HO7.o,?_,?_,below_grown (HBB.o.alloc HBB.o.size _) HG7.o (Nat.le_trans HBB.o.size (by simp)) (fun j hj=>(World.ownsRow.lt HO.o j hj).1)⟩
     ·intro x hx;rcases List.mem_append.1 hx with h|h
      ·exact HW.o x h
      ·obtain rfl:=List.mem_singleton.1 h;exact hr2
     ·have h:=HV.o;rw [drop_step a k,drop_step b k,HXA.o,HXB.o] at h;exact sub_step h HST.o
    case measure=>simp [intOf];omega
  have hkaI:¬ (k:Int)<(a.length:Int):=by omega
  obtain ⟨VA,vc,hvf,hil,hno⟩:=HO.o.il;have HNO:=qh hno;subst hvf
  have hsum:v4 acc=x - y:=by
   have h:=HV.o;rw [show a.drop k=[] from List.drop_eq_nil_of_le (by omega)] at h;exact sub4_end HW.o HYX.o h
  have HSUM:=qh hsum;have HIL:=qh hil;clear hsum hil hno;go_wp2_with fail;refine (ref_trimD wo VA acc.length vc acc HIL.o HNO.o HW.o (by omega)).mono ?_;rw [HSUM.o];rintro e w1 ⟨⟨A1,n1,c1,rfl,hd⟩,h1⟩;subst w1;have HD:=qh hd;clear hd;dsimp only;go_wp2_with fail;go_ret
  exact ⟨⟨A1,n1,c1,rfl,HD.o⟩,HBB.o⟩
theorem d4_len_le {x y:Nat} (h:x≤y):(d4 x).length≤(d4 y).length:=by
 refine d4_len ?_;have h1:=v4_lt (w4_d4 y);rw [v4_d4] at h1;omega
theorem v4_cut (l:List Nat) (m:Nat):v4 l=v4 (l.take m)+10000 ^ (l.take m).length * v4 (l.drop m):=by
 conv=>lhs;rw [← List.take_append_drop m l,v4_app]
theorem cmp4_lt {a b:List Nat} {m:Nat} (hl:a.length=b.length) (hm:m<a.length) (ha:W4 a) (he:v4 (a.drop (m+1))=v4 (b.drop (m+1))) (h:a.getD m 0<b.getD m 0):v4 a<v4 b:=by
 have h1:=v4_lt (l:=a.take m) (fun x hx=>ha x (List.mem_of_mem_take hx));rw [v4_cut a m,v4_cut b m,drop_step a m,drop_step b m,he];have h2:(a.take m).length=m:=by rw [List.length_take];omega
 have h3:(b.take m).length=m:=by rw [List.length_take];omega
 rw [h2] at h1 ⊢;rw [h3];have h4:10000 ^ m * (a.getD m 0+1)≤10000 ^ m * b.getD m 0:=Nat.mul_le_mul_left _ h;simp only [Nat.mul_add,Nat.mul_one] at h4 ⊢;omega
theorem ref_Cmp (w:World) (A B:Option Addr) (n c m d x y:Nat) (h:D4 w A n c x) (h':D4 w B m d y) (hl:(d4 x).length≤1000000) (hl':(d4 y).length≤1000000) :
  Calls Tryz.prog 214 #[.slice A n c,.slice B m d] w fun e w'=>e=.returned (.int .i64 (cmpN x y))∧Below w.heap.size w w':=by
 obtain rfl:n=(d4 x).length:=h.1.len;obtain rfl:m=(d4 y).length:=h'.1.len;by_cases hlt:(d4 x).length<(d4 y).length
 ·have hne:(d4 x).length≠(d4 y).length:=by omega
  have hneI:(((d4 x).length:Int) != ((d4 y).length:Int))=true:=by rw [bne_iff_ne];omega
  have hI:((d4 x).length:Int)<((d4 y).length:Int):=by omega
  have hr:cmpN x y=-1:=if_pos (by by_cases h:x<y;exact h;exact absurd (d4_len_le (Nat.le_of_not_lt h)) (by omega));have HR:=qh hr;generalize (d4 x).length=p at *
  generalize (d4 y).length=q at *
  clear h h' hne hr;go_enter Tryz.func214,Tryz.ntmps214;go_wp2_with fail;go_ret
  exact ⟨by rw [HR.o];rfl,Below.refl _ _⟩
 by_cases hgt:(d4 y).length<(d4 x).length
 ·have hneI:(((d4 x).length:Int) != ((d4 y).length:Int))=true:=by rw [bne_iff_ne];omega
  have hI:¬ ((d4 x).length:Int)<((d4 y).length:Int):=by omega
  have hr:cmpN x y=1:=by
   have h1:y<x:=by by_cases h:y<x;exact h;exact absurd (d4_len_le (Nat.le_of_not_lt h)) (by omega)
   unfold cmpN;rw [if_neg (by omega),if_neg (by omega)]
  have HR:=qh hr;generalize (d4 x).length=p at *
  generalize (d4 y).length=q at *
  clear h h' hr;go_enter Tryz.func214,Tryz.ntmps214;go_wp2_with fail;go_ret
  exact ⟨by rw [HR.o];rfl,Below.refl _ _⟩
 obtain ⟨a,ha⟩:∃ a,d4 x=a:=⟨_,rfl⟩;obtain ⟨b,hb⟩:∃ b,d4 y=b:=⟨_,rfl⟩;replace h:=h.1;replace h':=h'.1;have hva:v4 a=x:=by rw [← ha,v4_d4]
 have hvb:v4 b=y:=by rw [← hb,v4_d4]
 have hwa:W4 a:=by rw [← ha];exact w4_d4 x
 have hwb:W4 b:=by rw [← hb];exact w4_d4 y
 rw [ha] at h hl hlt hgt ⊢;rw [hb] at h' hl' hlt hgt ⊢;have hab:a.length=b.length:=by omega
 have HAB:=qh hab;rw [← hab] at h' ⊢;obtain ⟨p,hp⟩:∃ p,a.length=p:=⟨_,rfl⟩;rw [hp] at h h' hl ⊢;have hneI:((p:Int) != (p:Int))=false:=by simp
 have HP:=qh hp;have HA:=qh h;have HB:=qh h';have HWA:=qh hwa;have HWB:=qh hwb;have HVA:=qh hva;have HVB:=qh hvb;have hlI:(p:Int)≤1000000:=by omega
 have hl0:(0:Int)≤(p:Int):=by omega
 have hcap:p≤c:=by obtain ⟨A',c',h1,h2,-⟩:=h;obtain ⟨-,hq,rfl⟩:=Value.slice.inj h1;have:=HP.o;omega
 have hcap2:p≤d:=by obtain ⟨A',c',h1,h2,-⟩:=h';obtain ⟨-,hq,rfl⟩:=Value.slice.inj h1;have:=HP.o;have:=HAB.o;omega
 clear h h' ha hb hva hvb hwa hwb hlt hgt hp hab hl';go_enter Tryz.func214,Tryz.ntmps214;go_wp2_with fail;go_loopw [5] (fun i wr=>∃ (m:Nat),i=.int .i64 ((m:Int) - 1)∧m≤p∧v4 (a.drop m)=v4 (b.drop m)∧Below w.heap.size w wr) (fun i _=>(intOf i+1).toNat)
 case atStart=>exact ⟨p,rfl,ql,by rw [List.drop_eq_nil_of_le (by rw [HP.o];omega),List.drop_eq_nil_of_le (by rw [← HAB.o,HP.o];omega)],Below.refl _ _⟩
 case round =>
  obtain ⟨m,rfl,hm,ht,hbw⟩:=hrel;have HT:=qh ht;have HBw:=qh hbw;clear ht hbw;cases m with
  | zero =>
   have hr:cmpN x y=0:=by
    have h:=HT.o;rw [List.drop_zero,List.drop_zero,HVA.o,HVB.o] at h;subst h;unfold cmpN;simp
   have HR:=qh hr;clear hr;go_wp2_with fail;go_ret
   exact ⟨by rw [HR.o];rfl,HBw.o⟩
  | succ m =>
   obtain ⟨b1,o1,rfl,hc1⟩:=(HA.o.below HBw.o ql).at (by rw [HP.o];omega);obtain ⟨b2,o2,rfl,hc2⟩:=(HB.o.below HBw.o ql).at (by rw [← HAB.o,HP.o];omega);have hm1:m<a.length:=by rw [HP.o];omega
   have hm2:m<b.length:=by rw [← HAB.o,HP.o];omega
   have k0:=hc1 m (a.getD m 0) (by rw [List.getD_eq_getElem?_getD,List.getElem?_eq_getElem hm1];rfl);have k1:=hc2 m (b.getD m 0) (by rw [List.getD_eq_getElem?_getD,List.getElem?_eq_getElem hm2];rfl);obtain ⟨xa,hxa⟩:∃ xa,a.getD m 0=xa:=⟨_,rfl⟩;obtain ⟨xb,hxb⟩:∃ xb,b.getD m 0=xb:=⟨_,rfl⟩;rw [hxa] at k0;rw [hxb] at k1;have HXA:=qh hxa;have HXB:=qh hxb;have HM:=qh hm1;have hz:(((m+1:Nat):Int) - 1)=(m:Int):=by omega
   rw [hz];have hm0:(0:Int)≤(m:Int):=by omega
   have hmp:(m:Int)<(p:Int):=by omega
   clear hc1 hc2 hxa hxb hm1 hm2 hz;by_cases h1:xa<xb
   ·have hr:cmpN x y=-1:=if_pos (by rw [← HVA.o,← HVB.o];exact cmp4_lt HAB.o HM.o HWA.o HT.o (by rw [HXA.o,HXB.o];exact h1));have HR:=qh hr;have hI:(xa:Int)<(xb:Int):=by omega
    clear hr h1;go_wp2_with fail;go_quiet (fail);go_wp2_with fail;go_ret
    exact ⟨by rw [HR.o];rfl,below_drewN HBw.o _⟩
   have hI:¬ (xa:Int)<(xb:Int):=by omega
   by_cases h2:xb<xa
   ·have hr:cmpN x y=1:=by
     have h:y<x:=by rw [← HVA.o,← HVB.o];exact cmp4_lt HAB.o.symm (by rw [← HAB.o];exact HM.o) HWB.o HT.o.symm (by rw [HXA.o,HXB.o];exact h2)
     unfold cmpN;rw [if_neg (by omega),if_neg (by omega)]
    have HR:=qh hr;have hJ:(xb:Int)<(xa:Int):=by omega
    clear hr h1 h2;go_wp2_with fail;go_quiet (fail);have k2:(wr.drewN nq).cell? ⟨b1,o1+m,none⟩=some (.int .i64 xa):=k0;have k3:(wr.drewN nq).cell? ⟨b2,o2+m,none⟩=some (.int .i64 xb):=k1;have HBx:Hid (Below w.heap.size w (wr.drewN nq)):=below_drewN HBw.o _;generalize wr.drewN nq=w4 at k2 k3 HBx ⊢;clear k0 k1 HBw;go_wp2_with fail;go_quiet (fail);go_wp2_with fail;go_ret
    exact ⟨by rw [HR.o];rfl,below_drewN HBx.o _⟩
   have hJ:¬ (xb:Int)<(xa:Int):=by omega
   have hst:v4 (a.drop m)=v4 (b.drop m):=by rw [drop_step,drop_step b,HXA.o,HXB.o,HT.o];omega
   have HST:=qh hst;clear h1 h2 hst;go_wp2_with fail;go_quiet (fail);have k2:(wr.drewN nq).cell? ⟨b1,o1+m,none⟩=some (.int .i64 xa):=k0;have k3:(wr.drewN nq).cell? ⟨b2,o2+m,none⟩=some (.int .i64 xb):=k1;have HBx:Hid (Below w.heap.size w (wr.drewN nq)):=below_drewN HBw.o _;generalize wr.drewN nq=w4 at k2 k3 HBx ⊢;clear k0 k1 HBw;go_wp2_with fail;go_quiet (fail);go_wp2_with fail;refine ⟨⟨m,rfl,by omega,HST.o,below_drewN HBx.o _⟩,by simp [intOf];try omega⟩
end Go.Proofs.YtdgleeglndcjhaaGreatDoor
