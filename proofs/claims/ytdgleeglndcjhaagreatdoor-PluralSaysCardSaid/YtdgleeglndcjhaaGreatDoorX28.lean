import Derived.Test.YtdgleeglndcjhaaGreatDoorX27
set_option linter.unusedSimpArgs false
set_option linter.unusedVariables false
set_option maxHeartbeats 8000000
set_option maxRecDepth 100000
namespace Go.Proofs.YtdgleeglndcjhaaGreatDoor
open Go.RowKit
theorem v4_set:∀ {P:List Nat} {f o r:Nat},P[f]?=some o→v4 (P.set f r)+10000 ^ f * o=v4 P+10000 ^ f * r
 | [],_,_,_,h=>by simp at h
 | a :: P,0,o,r,h=>by simp at h;subst h;simp [v4];omega
 | a :: P,f+1,o,r,h=>by
  have ih:=v4_set (P:=P) (f:=f) (o:=o) (r:=r) (by simpa using h);simp only [M1,v4,Nat.pow_succ];have e:∀ z,10000 ^ f * 10000 * z=10000 * (10000 ^ f * z):=fun z=>by rw [Nat.mul_comm (10000 ^ f) 10000,Nat.mul_assoc]
  rw [e,e];omega
theorem mul_step {P:List Nat} {f c x y R o s N:Nat} (hP:P[f]?=some o) (h:v4 P+10000 ^ f * (c+x * (y+10000 * R))=N) (hs:s=o+x * y+c):v4 (P.set f (s % 10000))+10000 ^ (f+1) * (s / 10000+x * R)=N:=by
 have h1:=v4_set (r:=s % 10000) hP;have e1:s=s % 10000+10000 * (s / 10000):=by omega
 have e2:=congrArg (10000 ^ f * ·) e1;have e3:=congrArg (10000 ^ f * ·) hs;generalize s % 10000=r at *
 generalize s / 10000=q at *
 rw [Nat.pow_succ];generalize 10000 ^ f=F at *
 simp only [Nat.mul_add] at e2 e3 h ⊢;have e4:F * 10000 * q=F * (10000 * q):=Nat.mul_assoc _ _ _;have e5:F * 10000 * (x * R)=F * (x * (10000 * R)):=by rw [Nat.mul_assoc,Nat.mul_left_comm x 10000 R]
 rw [e4,e5];omega
theorem take_lt4 {a:List Nat} (ha:W4 a) (m:Nat):v4 (a.take m)<10000 ^ a.length :=
 Nat.lt_of_lt_of_le (v4_lt (fun x hx=>ha x (List.mem_of_mem_take hx))) (Nat.pow_le_pow_right (by omega) (by rw [List.length_take];omega))
theorem mul_bound {a b:List Nat} (ha:W4 a) (hb:W4 b) (m:Nat):v4 (a.take m) * v4 b<10000 ^ (a.length+b.length):=by
 rw [Nat.pow_add];exact Nat.mul_lt_mul'' (take_lt4 ha m) (v4_lt hb)
theorem mul_top {V N c R e L:Nat} (h:V+10000 ^ e * (c+R)=N) (hN:N<10000 ^ L) (hc:0<c):e<L:=by
 by_cases he:e<L
 ·exact he
 ·exfalso;have h1:10000 ^ L≤10000 ^ e:=Nat.pow_le_pow_right (by omega) (by omega);have h2:10000 ^ e * 1≤10000 ^ e * (c+R):=Nat.mul_le_mul_left _ (by omega);generalize 10000 ^ e * (c+R)=Q at *
  generalize 10000 ^ e=E at *
  generalize 10000 ^ L=F at *
  omega
theorem take_step (a:List Nat) (i:Nat) (hi:i<a.length):v4 (a.take (i+1))=v4 (a.take i)+10000 ^ i * a.getD i 0:=by
 rw [List.take_add_one,List.getElem?_eq_getElem hi,v4_app,List.getD_eq_getElem?_getD,List.getElem?_eq_getElem hi,List.length_take,Nat.min_eq_left (by omega)];simp [v4]
theorem IL_blk {w:World} {g n:Nat} {D:List Nat} (h:Blk w g 3 (nums D)) (hn:D.length=n):IL w (some ⟨g,0,none⟩) n n D:=by
 subst hn;have h1:=h.slc D.length D.length (by simp) ql;unfold IL;rw [List.take_of_length_le (by simp)] at h1;exact h1
theorem nums_set (D:List Nat) (f r:Nat):(nums D).set f (.int .i64 (r:Int))=nums (D.set f r):=by simp [nums,List.map_set]
theorem w4_set {D:List Nat} (h:W4 D) (f r:Nat) (hr:r<10000):W4 (D.set f r):=by
 intro x hx;rcases List.mem_or_eq_of_mem_set hx with h1|h1
 ·exact h x h1
 ·omega
theorem v4_rep (n:Nat):v4 (List.replicate n 0)=0:=by
 induction n with
 | zero=>rfl
 | succ n ih=>simp [List.replicate_succ,v4,ih]
theorem ref_Mul (w:World) (A B:Option Addr) (n c m d X Y:Nat) (h:D4 w A n c X) (h':D4 w B m d Y) (hl:(d4 X).length≤100000) (hl':(d4 Y).length≤100000) :
  Calls Tryz.prog 79 #[.slice A n c,.slice B m d] w fun e w'=>RetD4 e w' (X * Y)∧Below w.heap.size w w':=by
 obtain ⟨i3,hi3,hz0,hz1,hz2⟩:=info_parts Tryz_info3';have hmx:=maxLen_ge;obtain rfl:n=(d4 X).length:=h.1.len;obtain rfl:m=(d4 Y).length:=h'.1.len;obtain ⟨a,ha⟩:∃ a,d4 X=a:=⟨_,rfl⟩;obtain ⟨b,hb⟩:∃ b,d4 Y=b:=⟨_,rfl⟩;replace h:=h.1;replace h':=h'.1;have hva:v4 a=X:=by rw [← ha,v4_d4]
 have hvb:v4 b=Y:=by rw [← hb,v4_d4]
 have hwa:W4 a:=by rw [← ha];exact w4_d4 X
 have hwb:W4 b:=by rw [← hb];exact w4_d4 Y
 rw [ha] at h hl ⊢;rw [hb] at h' hl' ⊢;obtain ⟨la,hla⟩:∃ la,a.length=la:=⟨_,rfl⟩;obtain ⟨lb,hlb⟩:∃ lb,b.length=lb:=⟨_,rfl⟩;rw [hla] at h hl ⊢;rw [hlb] at h' hl' ⊢;have HLA:=qh hla;have HLB:=qh hlb;have HA:=qh h;have HB:=qh h';have HWA:=qh hwa;have HWB:=qh hwb;have HVA:=qh hva;have HVB:=qh hvb;have hlI:(la:Int)≤100000:=by omega
 have hlJ:(lb:Int)≤100000:=by omega
 have hl0:(0:Int)≤(la:Int):=by omega
 have hl1:(0:Int)≤(lb:Int):=by omega
 clear h h' ha hb hva hvb hwa hwb hla hlb;go_enter Tryz.func79,Tryz.ntmps79;go_wp2_with (at_make;go_loud (refine wpList_make_blk _ rfl (.tmp 15) (.tmp 15) 66 rfl 3 i3 (.int .i64 0) Tryz.underlying66 hi3 hz0 hz1 rfl .i64 .i64 _ _ (la+lb+1) rfl rfl (by simp) (by simp) (by rw [hz2];omega) (by unfold maxLen;omega) ?_))
 go_wp2_with fail;go_loopw [6] (fun s6 wr=>∃ (i:Nat) (D:List Nat),s6=.int .i64 i∧i≤la∧D.length=la+lb+1∧W4 D∧v4 D=v4 (a.take i) * Y∧Blk wr w.heap.size 3 (nums D)∧Below w.heap.size w wr) (fun i _=>la - (intOf i).toNat)
 case atStart =>
  refine ⟨0,List.replicate (la+lb+1) 0,rfl,by omega,by simp,(fun x hx=>by rw [List.eq_of_mem_replicate hx];omega),by rw [v4_rep,List.take_zero];simp [v4],Blk.made _ 3 _ _ _ rfl (by simp [nums]),(Below.refl _ _).alloc ql _⟩
 case round =>
  obtain ⟨i,D,rfl,hi,hDl,hDw,hDv,hD,hbw⟩:=hrel;obtain ⟨wo,rfl⟩:∃ wo:World,wo=wr:=⟨_,rfl⟩;have HDL:=qh hDl;have HDW:=qh hDw;have HDV:=qh hDv;have HD:=qh hD;have HBW:=qh hbw;have hbz:=hbw.size;clear hDl hDw hDv hD hbw;by_cases hin:i<la
  case neg =>
   obtain rfl:i=la:=by omega
   have hiI:¬ (i:Int)<(i:Int):=by omega
   have hsum:v4 D=X * Y:=by have h:=HDV.o;rw [List.take_of_length_le (by rw [HLA.o];omega),HVA.o] at h;exact h
   have HSUM:=qh hsum;clear hsum hiI;go_wp2_with fail;refine (ref_trimD wo (some ⟨w.heap.size,0,none⟩) (i+lb+1) (i+lb+1) D (IL_blk HD.o HDL.o) (fun h=>by cases h) HDW.o (by rw [HDL.o];omega)).mono ?_;rw [HSUM.o];rintro e w1 ⟨⟨A1,n1,c1,rfl,hd⟩,h1⟩;subst w1;have HE:=qh hd;clear hd;dsimp only;go_wp2_with fail;go_ret
   exact ⟨⟨A1,n1,c1,rfl,HE.o⟩,HBW.o⟩
  have hinI:(i:Int)<(la:Int):=by omega
  obtain ⟨x,hx⟩:∃ x,a.getD i 0=x:=⟨_,rfl⟩;have hx4:x<10000:=by rw [← hx];exact getD_lt4 HWA.o i
  have HX:=qh hx;obtain ⟨bA,oA,rfl,hcA⟩:=HA.o.at (by rw [HLA.o];omega);have hia:i<a.length:=by rw [HLA.o];exact hin
  have kA:=hcA i x (by rw [← hx,List.getD_eq_getElem?_getD,List.getElem?_eq_getElem hia];rfl);have KA:=qh kA;obtain ⟨N,hN⟩:∃ N,v4 (a.take (i+1)) * Y=N:=⟨_,rfl⟩;have hNb:N<10000 ^ (la+lb):=by rw [← hN,← HVB.o,← HLA.o,← HLB.o];exact mul_bound HWA.o HWB.o (i+1)
  have hN0:v4 D+10000 ^ i * (x * Y)=N:=by rw [← hN,take_step a i hia,hx,HDV.o,Nat.add_mul,Nat.mul_assoc]
  have HN:=qh hN;have HNB:=qh hNb;have HN0:=qh hN0;clear hx hcA hia kA hN hNb hN0;go_wp2_with fail;go_loopw [7,8] (fun s7 s8 wr=>∃ (k cr:Nat) (P:List Nat),s8=.int .i64 k∧s7=.int .i64 cr∧cr<10000∧i+k≤la+lb+1∧P.length=la+lb+1∧W4 P∧v4 P+10000 ^ (i+k) * (cr+x * v4 (b.drop k))=N∧Blk wr w.heap.size 3 (nums P)∧Below w.heap.size w wr) (fun _ s8 _=>la+lb+2 - (intOf s8).toNat)
  case atStart =>
   exact ⟨0,0,D,rfl,rfl,by omega,by omega,HDL.o,HDW.o,by rw [List.drop_zero,HVB.o,Nat.add_zero,Nat.zero_add];exact HN0.o,HD.o,HBW.o⟩
  case round =>
   obtain ⟨k,cr,P,rfl,rfl,hcr,hk,hPl,hPw,hPv,hP,hbw⟩:=hrel;have HPL:=qh hPl;have HPW:=qh hPw;have HPV:=qh hPv;have HPB:=qh hP;have HBX:=qh hbw;have hbz2:=hbw.size;clear hPl hPw hPv hP hbw HD HBW HN0 HDV HDW HDL
   have HKB:Hid (k<lb∨0<cr→i+k<la+lb):=fun h=>by
    rcases h with h|h
    ·omega
    ·exact mul_top HPV.o HNB.o h
   by_cases hk1:k<lb
   ·have hk1I:(k:Int)<(lb:Int):=by omega
    have hf:i+k<la+lb:=HKB.o (.inl hk1);obtain ⟨f,hff⟩:∃ f,i+k=f:=⟨_,rfl⟩;have HF:=qh hff;rw [hff] at hf;obtain ⟨y,hy⟩:∃ y,b.getD k 0=y:=⟨_,rfl⟩;have hy4:y<10000:=by rw [← hy];exact getD_lt4 HWB.o k
    have HY:=qh hy;obtain ⟨o,ho⟩:∃ o,P.getD f 0=o:=⟨_,rfl⟩;have ho4:o<10000:=by rw [← ho];exact getD_lt4 HPW.o f
    have hPf:P[f]?=some o:=by rw [← ho,List.getD_eq_getElem?_getD,List.getElem?_eq_getElem (by rw [HPL.o];omega)];rfl
    have HPF:=qh hPf;obtain ⟨p,hp⟩:∃ p,x * y=p:=⟨_,rfl⟩;have hpb:p≤99980001:=by rw [← hp];exact Nat.mul_le_mul (show x≤9999 by omega) (show y≤9999 by omega)
    have hpI:(x:Int) * (y:Int)=(p:Int):=by rw [← hp];simp
    have hmul:IntKind.i64.wrap ((x:Int) * (y:Int))=(p:Int):=by rw [hpI];exact IntWalk.i64_in _ ⟨by omega,by omega⟩
    have HPp:=qh hp;obtain ⟨t,ht⟩:∃ t,o+p=t:=⟨_,rfl⟩;obtain ⟨s,hs⟩:∃ s,t+cr=s:=⟨_,rfl⟩;have hst:s=o+x * y+cr:=by omega
    have HST:=qh hst;have hik:IntKind.i64.wrap ((i:Int)+(k:Int))=(f:Int):=by rw [show (i:Int)+(k:Int)=(f:Int) by omega];exact IntWalk.i64_in _ ⟨by omega,by omega⟩
    have htw:IntKind.i64.wrap ((o:Int)+(p:Int))=(t:Int):=by rw [show (o:Int)+(p:Int)=(t:Int) by omega];exact IntWalk.i64_in _ ⟨by omega,by omega⟩
    have hsw:IntKind.i64.wrap ((t:Int)+(cr:Int))=(s:Int):=by rw [show (t:Int)+(cr:Int)=(s:Int) by omega];exact IntWalk.i64_in _ ⟨by omega,by omega⟩
    have hikI:(i:Int)+(k:Int)=(f:Int):=by omega
    have hsb:s≤99999999:=by omega
    have hf0:(0:Int)≤(f:Int):=by omega
    have hfI:(f:Int)<(la:Int)+(lb:Int)+1:=by omega
    have CB:Hid (∀ n,Calls Tryz.prog 123 #[.slice B lb d,.int .i64 (k:Int)] (wr.drewN n) fun e w'=>e=.returned (.int .i64 (y:Int))∧wr.drewN n=w'):=fun n=>by
     refine (ref_at (wr.drewN n) B lb d k b (HB.o.below (below_drewN HBX.o _) ql) (by rw [HLB.o];omega)).mono ?_;rw [HY.o];rintro e w1 ⟨h1,h2⟩;exact ⟨h1,h2.symm⟩
    have kP:wr.cell? ⟨w.heap.size,f,none⟩=some (.int .i64 (o:Int)):=(HPB.o.cell f).trans (by simp [nums,HPF.o]);have fP:=HPB.o.frozen f;have kA:=(HBX.o.cell (p:=⟨bA,oA+i,none⟩) (World.block_lt_of_cell? w _ KA.o)).trans KA.o;clear hff hy ho hPf hp ht hs hst hpI;go_wp2_with fail;go_quiet (with_reducible exact quiet_eq (CB.o _));have HP4:Hid (Blk (wr.drewN nq) w.heap.size 3 (nums P)):=(show Blk (wr.drewN nq) w.heap.size 3 (nums P) from HPB.o);have HB4:Hid (Below w.heap.size w (wr.drewN nq)):=below_drewN HBX.o _;have fP4:(wr.drewN nq).frozen? ⟨w.heap.size,f,none⟩=false:=HP4.o.frozen f;have kP4:(wr.drewN nq).cell? ⟨w.heap.size,f,none⟩=some (.int .i64 (o:Int)):=kP;generalize wr.drewN nq=w4 at HP4 HB4 fP4 kP4 ⊢;clear kP fP kA CB HPB HBX hik htw hsw hmul;obtain ⟨r,hr⟩:∃ r,s % 10000=r:=⟨_,rfl⟩;obtain ⟨q,hq⟩:∃ q,s / 10000=q:=⟨_,rfl⟩;have hrI:(s:Int).tmod 10000=(r:Int):=by rw [Int.tmod_eq_emod_of_nonneg (by omega)];omega
    have hqI:(s:Int).tdiv 10000=(q:Int):=by rw [Int.tdiv_eq_ediv_of_nonneg (by omega)];omega
    have hr4:r<10000:=by omega
    have hq4:q<10000:=by omega
    have HR:=qh hr;have HQ:=qh hq;clear hr hq;go_wp2_with fail;refine ⟨⟨k+1,q,P.set f r,by go_num,rfl,hq4,by have:=HF.o;omega,by rw [List.length_set];exact HPL.o,w4_set HPW.o f r hr4,?_,?_,?_⟩,by have:=HF.o;simp [intOf];omega⟩
    ·have h:=HPV.o;rw [drop_step b k,HY.o,HF.o] at h;have h2:=mul_step HPF.o h HST.o;rw [HR.o,HQ.o] at h2;rw [show i+(k+1)=f+1 by have:=HF.o;omega];exact h2
    ·have h:=HP4.o.put f (.int .i64 (r:Int));rw [nums_set] at h;exact h
    ·exact HB4.o.setCell ql _
   have hk1I:¬ (k:Int)<(lb:Int):=by omega
   by_cases hk2:0<cr
   ·have hk2I:(0:Int)<(cr:Int):=by omega
    have hf:i+k<la+lb:=HKB.o (.inr hk2);obtain ⟨f,hff⟩:∃ f,i+k=f:=⟨_,rfl⟩;have HF:=qh hff;rw [hff] at hf;obtain ⟨y,hy⟩:∃ y,b.getD k 0=y:=⟨_,rfl⟩;have hy4:y<10000:=by rw [← hy];exact getD_lt4 HWB.o k
    have HY:=qh hy;obtain ⟨o,ho⟩:∃ o,P.getD f 0=o:=⟨_,rfl⟩;have ho4:o<10000:=by rw [← ho];exact getD_lt4 HPW.o f
    have hPf:P[f]?=some o:=by rw [← ho,List.getD_eq_getElem?_getD,List.getElem?_eq_getElem (by rw [HPL.o];omega)];rfl
    have HPF:=qh hPf;obtain ⟨p,hp⟩:∃ p,x * y=p:=⟨_,rfl⟩;have hpb:p≤99980001:=by rw [← hp];exact Nat.mul_le_mul (show x≤9999 by omega) (show y≤9999 by omega)
    have hpI:(x:Int) * (y:Int)=(p:Int):=by rw [← hp];simp
    have hmul:IntKind.i64.wrap ((x:Int) * (y:Int))=(p:Int):=by rw [hpI];exact IntWalk.i64_in _ ⟨by omega,by omega⟩
    have HPp:=qh hp;obtain ⟨t,ht⟩:∃ t,o+p=t:=⟨_,rfl⟩;obtain ⟨s,hs⟩:∃ s,t+cr=s:=⟨_,rfl⟩;have hst:s=o+x * y+cr:=by omega
    have HST:=qh hst;have hik:IntKind.i64.wrap ((i:Int)+(k:Int))=(f:Int):=by rw [show (i:Int)+(k:Int)=(f:Int) by omega];exact IntWalk.i64_in _ ⟨by omega,by omega⟩
    have htw:IntKind.i64.wrap ((o:Int)+(p:Int))=(t:Int):=by rw [show (o:Int)+(p:Int)=(t:Int) by omega];exact IntWalk.i64_in _ ⟨by omega,by omega⟩
    have hsw:IntKind.i64.wrap ((t:Int)+(cr:Int))=(s:Int):=by rw [show (t:Int)+(cr:Int)=(s:Int) by omega];exact IntWalk.i64_in _ ⟨by omega,by omega⟩
    have hikI:(i:Int)+(k:Int)=(f:Int):=by omega
    have hsb:s≤99999999:=by omega
    have hf0:(0:Int)≤(f:Int):=by omega
    have hfI:(f:Int)<(la:Int)+(lb:Int)+1:=by omega
    have CB:Hid (∀ n,Calls Tryz.prog 123 #[.slice B lb d,.int .i64 (k:Int)] (wr.drewN n) fun e w'=>e=.returned (.int .i64 (y:Int))∧wr.drewN n=w'):=fun n=>by
     refine (ref_at (wr.drewN n) B lb d k b (HB.o.below (below_drewN HBX.o _) ql) (by rw [HLB.o];omega)).mono ?_;rw [HY.o];rintro e w1 ⟨h1,h2⟩;exact ⟨h1,h2.symm⟩
    have kP:wr.cell? ⟨w.heap.size,f,none⟩=some (.int .i64 (o:Int)):=(HPB.o.cell f).trans (by simp [nums,HPF.o]);have fP:=HPB.o.frozen f;have kA:=(HBX.o.cell (p:=⟨bA,oA+i,none⟩) (World.block_lt_of_cell? w _ KA.o)).trans KA.o;clear hff hy ho hPf hp ht hs hst hpI;go_wp2_with fail;go_quiet (with_reducible exact quiet_eq (CB.o _));have HP4:Hid (Blk (wr.drewN nq) w.heap.size 3 (nums P)):=(show Blk (wr.drewN nq) w.heap.size 3 (nums P) from HPB.o);have HB4:Hid (Below w.heap.size w (wr.drewN nq)):=below_drewN HBX.o _;have fP4:(wr.drewN nq).frozen? ⟨w.heap.size,f,none⟩=false:=HP4.o.frozen f;have kP4:(wr.drewN nq).cell? ⟨w.heap.size,f,none⟩=some (.int .i64 (o:Int)):=kP;generalize wr.drewN nq=w4 at HP4 HB4 fP4 kP4 ⊢;clear kP fP kA CB HPB HBX hik htw hsw hmul;obtain ⟨r,hr⟩:∃ r,s % 10000=r:=⟨_,rfl⟩;obtain ⟨q,hq⟩:∃ q,s / 10000=q:=⟨_,rfl⟩;have hrI:(s:Int).tmod 10000=(r:Int):=by rw [Int.tmod_eq_emod_of_nonneg (by omega)];omega
    have hqI:(s:Int).tdiv 10000=(q:Int):=by rw [Int.tdiv_eq_ediv_of_nonneg (by omega)];omega
    have hr4:r<10000:=by omega
    have hq4:q<10000:=by omega
    have HR:=qh hr;have HQ:=qh hq;clear hr hq;go_wp2_with fail;refine ⟨⟨k+1,q,P.set f r,by go_num,rfl,hq4,by have:=HF.o;omega,by rw [List.length_set];exact HPL.o,w4_set HPW.o f r hr4,?_,?_,?_⟩,by have:=HF.o;simp [intOf];omega⟩
    ·have h:=HPV.o;rw [drop_step b k,HY.o,HF.o] at h;have h2:=mul_step HPF.o h HST.o;rw [HR.o,HQ.o] at h2;rw [show i+(k+1)=f+1 by have:=HF.o;omega];exact h2
    ·have h:=HP4.o.put f (.int .i64 (r:Int));rw [nums_set] at h;exact h
    ·exact HB4.o.setCell ql _
   have hk2I:¬ (0:Int)<(cr:Int):=by omega
   have hend:v4 P=N:=by
    have h:=HPV.o;rw [List.drop_eq_nil_of_le (by rw [HLB.o];omega),show cr=0 by omega] at h;simpa [v4] using h
   have HEND:=qh hend;clear hend;go_wp2_with fail;refine ⟨⟨i+1,P,by go_num,by omega,HPL.o,HPW.o,by rw [HEND.o,HN.o],HPB.o,HBX.o⟩,by simp [intOf];omega⟩
theorem d4_ge {Y:Nat} (h:Y≠0):10000 ^ ((d4 Y).length - 1)≤Y:=by
 by_cases h1:10000 ^ ((d4 Y).length - 1)≤Y
 ·exact h1
 ·exfalso;have h2:=d4_len (k:=Y) (n:=(d4 Y).length - 1) (by omega);have h3:0<(d4 Y).length:=by rw [d4_pos h];simp
  omega
theorem d4_lt (Y:Nat):Y<10000 ^ (d4 Y).length:=by
 have h:=v4_lt (w4_d4 Y)
 rwa [v4_d4] at h
theorem own_lit0 (w:World) (B:Nat) (hB:B≤w.heap.size):(w.alloc (.cells #[] 3)).ownsRow B 3 1 (.slice (some ⟨w.heap.size,0,none⟩) 0 0) 0 []:=World.ownsRow_lit w #[] 0 hB (Nat.zero_le _) (by simp)
theorem own_lit1 (w:World) (B:Nat) (x:Value) (hB:B≤w.heap.size):(w.alloc (.cells #[x] 3)).ownsRow B 3 1 (.slice (some ⟨w.heap.size,0,none⟩) 1 1) 1 [x]:=World.ownsRow_lit w #[x] 1 hB (by decide) (by simp)
theorem ownN_of {w:World} {B k:Nat} {v:Value} {l l':List Nat} (h:w.ownsRow B 3 1 v k (nums l' ++ nums l)) (hk:(l' ++ l).length=k):OwnN w B v (l' ++ l):=by
 subst hk;unfold OwnN nums;rw [List.map_append];exact h
theorem IL.drop {w:World} {b o n c:Nat} {l:List Nat} (h:IL w (some ⟨b,o,none⟩) n c l) (m:Nat) (hm:m≤n):IL w (some ⟨b,o+m,none⟩) (n - m) (c - m) (l.drop m):=by
 obtain rfl:=h.len;obtain ⟨A',c',h1,h2,h3,h4⟩:=h;obtain ⟨hA,-,rfl⟩:=Value.slice.inj h1;refine ⟨_,_,by rw [List.length_drop],by rw [List.length_drop];omega,by simp,fun hp=>?_⟩;obtain ⟨b',o',h5,h6⟩:=h4 (by simp at hp ⊢;omega);have e:(⟨b,o,none⟩:Addr)=⟨b',o',none⟩:=Option.some.inj (hA.trans h5);cases e
 refine ⟨b,o+m,rfl,fun j x hx=>?_⟩;have h7:=h6 (m+j) x (by simpa [List.getElem?_drop] using hx);rw [← Nat.add_assoc] at h7;exact h7
theorem IL.alloc {w:World} {A:Option Addr} {n c:Nat} {l:List Nat} (h:IL w A n c l) (o:Obj):IL (w.alloc o) A n c l:=h.below ((Below.refl _ _).alloc ql _) ql
theorem IL.news {w:World} {b o n c:Nat} {l:List Nat} (h:IL w (some ⟨b,o,none⟩) n c l):∀ j u,(nums l)[j]?=some u→w.cell? ((⟨b,o,none⟩:Addr).add j)=some u:=fun j u hu=>by
 obtain ⟨A',c',h1,h2,h3,h4⟩:=h;have hlt:=(List.getElem?_eq_some_iff.1 hu).1;obtain ⟨b',o',h5,h6⟩:=h4 (by simp [nums] at hlt ⊢;omega);obtain ⟨hA,-,-⟩:=Value.slice.inj h1;have e:(⟨b,o,none⟩:Addr)=⟨b',o',none⟩:=Option.some.inj (hA.trans h5);cases e
 have h7:=h6 j u hu
 have hadd:(⟨b,o,none⟩:Addr).add j=⟨b,o+j,none⟩:=by
  unfold Addr.add;split
  ·rename_i h0;rw [show j=0 by simpa using h0];rfl
  ·rfl
 rw [hadd];exact h7
theorem nums_one (l:List Nat):∀ u ∈ nums l,u.oneCell'=true:=by
 intro u hu;obtain ⟨x,-,rfl⟩:=List.mem_map.1 hu
 rfl
theorem own_row {w w1:World} {W:World} {row:Option Nat} (hW:Below w.heap.size w W) (hg:W.grownBy w1 row) (hr:∀ k,row=some k→w.heap.size≤k):Below w.heap.size w w1:=below_grown hW hg hW.size hr
theorem IL.news' {w:World} {ad:Addr} {n c:Nat} {l:List Nat} (h:IL w (some ad) n c l):∀ j u,(nums l)[j]?=some u→w.cell? (ad.add j)=some u:=fun j u hu=>by
 have hlt:=(List.getElem?_eq_some_iff.1 hu).1;obtain ⟨A',c',h1,h2,h3,h4⟩:=h;obtain ⟨b',o',h5,h6⟩:=h4 (by simp [nums] at hlt ⊢;omega);obtain ⟨hA,-,-⟩:=Value.slice.inj h1;have e:ad=⟨b',o',none⟩:=Option.some.inj (hA.trans h5);subst e;have h7:=h6 j u hu
 have hadd:(⟨b',o',none⟩:Addr).add j=⟨b',o'+j,none⟩:=by
  unfold Addr.add;split
  ·rename_i h0;rw [show j=0 by simpa using h0];rfl
  ·rfl
 rw [hadd];exact h7
theorem wpList_app_nums {w:World} {ops:Array Oper} {rest:List Oper} {o:Oper} {a:Act} {Q:Exit→Act→World→Prop} (hgd:o.guard=none) (s x:Operand)
  (ho:o.op=.call { callee:=.builtin .append,args:=#[s,x],argTypes:=#[66,66] })
  (base:Nat) (v:Value) (l l2:List Nat) (hs:a.eval s=v) (hown:OwnN w base v l) (A1:Option Addr) (n1 c1:Nat) (hx:a.eval x=.slice A1 n1 c1) (hil:IL w A1 n1 c1 l2) (hno:A1=none→c1=0)
  (hb:(l ++ l2).length≤1000000) (hbase:base≤w.heap.size)
  (h:∀ v' w',OwnN w' base v' (l ++ l2)→w.grownBy w' v.ownBlock→wpList Tryz.prog ops Q rest (a.put o.dst v') w'):wpList Tryz.prog ops Q (o :: rest) a w:=by
 obtain ⟨i3,hi3,hz0,hz1,hz2⟩:=info_parts Tryz_info3';have hmx:=maxLen_ge;obtain rfl:=hil.len;rw [List.length_append] at hb;cases A1 with
 | none =>
  obtain rfl:=hno rfl
  have h0:l2=[]:=by
   obtain ⟨A',c',h1,h2,-⟩:=hil;obtain ⟨-,-,rfl⟩:=Value.slice.inj h1;exact List.eq_nil_of_length_eq_zero (by omega)
  subst h0;rw [List.append_nil] at h;refine wpList_plain hgd fun K hK=>?_;have hrun:=run_append_owned_none (P:=Tryz.prog) (w:=w) base 66 o.type 3 i3 1 Tryz.underlying66 hi3 v l.length (nums l) hown;unfold Oper.wp;simp [execOp,ho,resolve,invoke,builtin,hs,hx,hrun,Result.andThen];exact hK _ _ (h v w hown ⟨rfl,rfl,rfl,ql,fun _ _ _=>rfl⟩)
 | some ad =>
  refine wpList_append_own_at _ hgd s x 66 ho base 3 i3 (.int .i64 0) 1 8 Tryz.underlying66 hi3 hz0 hz1 hz2 rfl (by decide) v l.length (nums l) hs hown ad l2.length c1 (nums l2) hx (by simp [nums]) hil.news' (nums_one _) (by omega) (by omega) hbase ?_;intro v' w' h1 h2 h3 h4;exact h v' w' (ownN_of h1 (by simp)) h2
theorem D4.far {w:World} {A:Option Addr} {n n' c c' k g:Nat} (h:D4 w A n c k) (hf:∀ j,(Value.slice A n' c').ownBlock=some j→g+1≤j) (p:Nat) (u:Value):D4 (w.setCell ⟨g,p,none⟩ u) A n c k:=by
 refine ⟨SlC.stable h.1 fun j hj _=>Below.heap_setCell _ _ _ _ ?_,h.2⟩;have h1:=hf j (by cases A <;> first|exact hj|cases hj);show j≠g;omega
theorem div_last4 {Y m lo R R2 x:Nat} {a Q:List Nat} (h:v4 (a.drop (m+1))=v4 (Q.drop (m+1)) * Y+R) (hx:a.getD m 0=x) (hR:x+10000 * R=R2) (hlo:Y * lo≤R2) (hm:m<Q.length) :
  v4 (a.drop m)=v4 ((Q.set m lo).drop m) * Y+(R2 - Y * lo):=by
 rw [drop_step a m,hx,h,drop_step (Q.set m lo) m];have e1:(Q.set m lo).getD m 0=lo:=by rw [List.getD_eq_getElem?_getD,List.getElem?_set_self hm];rfl
 have e2:(Q.set m lo).drop (m+1)=Q.drop (m+1):=by rw [List.drop_set_of_lt (by omega)]
 rw [e1,e2,Nat.add_mul,Nat.mul_assoc,Nat.mul_comm lo Y];omega
def RetDD (e:Ending) (w':World) (q r:Nat):Prop:=∃ A n c A1 n1 c1,e=.returned (.tuple #[.slice A n c,.slice A1 n1 c1])∧D4 w' A n c q∧D4 w' A1 n1 c1 r
def RetDDF (B:Nat) (e:Ending) (w':World) (q r:Nat):Prop:=∃ A n c A1 n1 c1,e=.returned (.tuple #[.slice A n c,.slice A1 n1 c1])∧D4 w' A n c q∧D4 w' A1 n1 c1 r∧∀ k,(Value.slice A n c).ownBlock=some k→B≤k
theorem ref_trimA (w:World) (A:Option Addr) (n c:Nat) (l:List Nat) (h:IL w A n c l) (hA:A=none→c=0) (hw:W4 l) (hl:l.length≤1000000) :
  Calls Tryz.prog 124 #[.slice A n c] w fun e w'=>(∃ n',e=.returned (.slice A n' c)∧D4 w' A n' c (v4 l))∧w'=w :=
 (ref_trim w A n c l h hl).mono fun e w' ⟨m,he,h1,h2⟩=>⟨⟨m,he,by rw [← trim_d4 hw];exact h1,hA⟩,h2⟩
theorem own_some {b o n c k:Nat} (h:(Value.slice (some ⟨b,o,none⟩) n c).ownBlock=some k):b≤k:=by cases h;exact ql
theorem ref_DivF (w:World) (A B:Option Addr) (n c m d X Y:Nat) (h:D4 w A n c X) (h':D4 w B m d Y) (hl:(d4 X).length≤90000) (hl':(d4 Y).length≤90000) (hY:Y≠0) :
  Calls Tryz.prog 209 #[.slice A n c,.slice B m d] w fun e w'=>RetDDF w.heap.size e w' (X / Y) (X % Y)∧Below w.heap.size w w':=by
 obtain ⟨i3,hi3,hz0,hz1,hz2⟩:=info_parts Tryz_info3';have hmx:=maxLen_ge;obtain rfl:n=(d4 X).length:=h.1.len;obtain rfl:m=(d4 Y).length:=h'.1.len;obtain ⟨a,ha⟩:∃ a,d4 X=a:=⟨_,rfl⟩;have hlb1:0<(d4 Y).length:=by rw [d4_pos hY];simp
 have hlow:=d4_ge hY;have hhigh:=d4_lt Y;have hva:v4 a=X:=by rw [← ha,v4_d4]
 have hwa:W4 a:=by rw [← ha];exact w4_d4 X
 have HX4:=qh h;have hno:=h.2;have hal:=h.1;rw [ha] at hal hl ⊢;obtain ⟨la,hla⟩:∃ la,a.length=la:=⟨_,rfl⟩;obtain ⟨lb,hlb⟩:∃ lb,(d4 Y).length=lb:=⟨_,rfl⟩;rw [hla] at hal hl ⊢;rw [hlb] at h' hl' hlb1 hlow hhigh ⊢;have HLA:=qh hla;have HLB:=qh hlb;have HA:=qh hal;have HB:=qh h';have HWA:=qh hwa;have HVA:=qh hva;have HNO:=qh hno;have HLOW:=qh hlow;have HHIGH:=qh hhigh;have HY0:=qh hY;have hlI:(la:Int)≤90000:=by omega
 have hlJ:(lb:Int)≤90000:=by omega
 have hl0:(0:Int)≤(la:Int):=by omega
 have hl1:(1:Int)≤(lb:Int):=by omega
 have hX4:Hid (D4 w A la c X):=by have h1:=HX4.o;rw [ha,hla] at h1;exact h1
 clear h h' hal ha hwa hva hla hlb hno hlow hhigh HX4 hY;by_cases htop:la+1<lb
 ·have htI:(la:Int) - (lb:Int)+1<0:=by omega
  have hq:X / Y=0∧X % Y=X:=by
   have h1:X<Y:=by
    rw [← HVA.o];refine Nat.lt_of_lt_of_le (v4_lt HWA.o) (Nat.le_trans ?_ HLOW.o);exact Nat.pow_le_pow_right (by omega) (by rw [HLA.o];omega)
   exact ⟨Nat.div_eq_of_lt h1,Nat.mod_eq_of_lt h1⟩
  rw [hq.1,hq.2];clear hq;go_enter Tryz.func209,Tryz.ntmps209;go_wp2_with (at_make;go_loud (refine wpList_make_blk _ rfl (.tmp 14) (.tmp 14) 66 rfl 3 i3 (.int .i64 0) Tryz.underlying66 hi3 hz0 hz1 rfl .i64 .i64 _ _ la rfl rfl (by simp) (by simp) (by rw [hz2];omega) (by unfold maxLen;omega) ?_))
  go_wp2_with fail;go_ret2
  refine ⟨⟨none,0,0,A,la,c,rfl,⟨?_,fun _=>rfl⟩,hX4.out.below (Below.alloc (Below.refl _ _) ql _) ql,fun k h=>by cases h⟩,(Below.refl _ _).alloc ql _⟩;rw [d4_zero];exact SlC.nil _ _ _ _
 have htI:¬ (la:Int) - (lb:Int)+1<0:=by omega
 have htI2:¬ (la:Int)<(la:Int) - (lb:Int)+1:=by omega
 by_cases hz:la=0
 ·subst hz;obtain rfl:lb=1:=by omega
  have ha0:a=[]:=List.eq_nil_of_length_eq_zero HLA.o;have hX0:X=0:=by rw [← HVA.o,ha0];rfl
  rw [hX0,Nat.zero_div,Nat.zero_mod];clear ha0 hX0 htI htI2 htop hl hl' hlI hlJ hl0 hl1 hlb1
  have hAA:(A=none∧c=0)∨∃ ad,A=some ad:=by
   cases A with
   | none=>exact .inl ⟨rfl,HNO.o rfl⟩
   | some ad=>exact .inr ⟨ad,rfl⟩
  have HE:Hid (∀ (w2:World) (VA:Option Addr) (k vc:Nat),IL w2 VA k vc []→(VA=none→vc=0)→D4 w2 VA k vc 0):=fun w2 VA k vc h1 h2=>⟨by rw [d4_zero];exact h1,h2⟩;rcases hAA with ⟨rfl,rfl⟩|⟨ad,rfl⟩
  all_goals
   go_enter Tryz.func209,Tryz.ntmps209;go_upto_region 2 with (at_make;go_loud (refine wpList_make_blk _ rfl (.tmp 14) (.tmp 14) 66 rfl 3 i3 (.int .i64 0) Tryz.underlying66 hi3 hz0 hz1 rfl .i64 .i64 _ _ 0 rfl rfl (by simp) (by simp) (by rw [hz2];omega) (by unfold maxLen;omega) ?_))
   refine wp_letter (fun w1=>Blk w1 w.heap.size 3 (nums [])∧Below w.heap.size w w1) ⟨Blk.made _ 3 _ _ _ rfl (by simp),(Below.refl _ _).alloc ql _⟩ ?_;rintro w1 ⟨b1,hb1⟩;have HQ1:=qh b1;have HB1:=qh hb1;clear b1 hb1;go_wp2_with (at_builtin;go_loud (refine wpList_app_nums (by rfl) _ _ (by rfl) w1.heap.size (.slice (some ⟨w1.heap.size,0,none⟩) 0 0) [] [] (by rfl) (own_lit0 w1 _ ql) _ _ _ (by rfl) (SlC.nil _ _ _ _) (fun h=>by first|rfl|cases h|(split at h <;> cases h)) (by simp) (by simp) ?_);intro v2 w2 hown hgrow;obtain ⟨VA,vc,hv2,hil,hno2⟩:=hown.il;subst hv2;have HIL2:=qh hil;have HNO2:=qh hno2;have HG2:=qh hgrow;clear hown hgrow hil hno2)
  all_goals
   have H12:Hid (Below w1.heap.size w1 w2):=own_row ((Below.refl _ _).alloc ql _) HG2.o (fun k hk=>by cases hk;exact ql);refine (ref_trim w2 VA 0 vc [] HIL2.o (by simp)).mono ?_;rw [trim4_nil];rintro e w3 ⟨m2,rfl,hil3,h3⟩;subst w3;have HR3:Hid (D4 w2 VA m2 vc 0):=HE.o _ _ _ _ hil3 HNO2.o;clear hil3;dsimp only;go_wp2_with fail;go_loopw [8,9] (fun s8 s9 wr=>s8=.slice VA m2 vc∧s9=.int .i64 (-1)∧wr=w2) (fun _ _ _=>0)
   case atStart=>exact ⟨rfl,rfl,rfl⟩
   case round =>
    obtain ⟨rfl,rfl,rfl⟩:=hrel;have HB2:Hid (Below w.heap.size w wr):=HB1.o.trans (H12.o.mono HB1.o.size);have HIQ:=qh (IL_blk (HQ1.o.below H12.o HQ1.o.lt) (n:=0) rfl);go_wp2_with fail;refine (ref_trim wr _ 0 0 [] HIQ.o (by simp)).mono ?_;rw [trim4_nil];rintro e w3 ⟨m5,rfl,hil3,h3⟩;subst w3;have HQ5:=qh (HE.o _ _ _ 0 hil3 (fun _=>rfl));clear hil3;dsimp only;go_wp2_with fail;go_ret2
    exact ⟨⟨_,_,_,_,_,_,rfl,HQ5.o,HR3.o,fun k h=>own_some h⟩,HB2.o⟩
 obtain ⟨tp,htp⟩:∃ tp:Nat,(la:Int) - (lb:Int)+1=(tp:Int):=⟨la+1 - lb,by omega⟩;have htpl:(tp:Int)≤(la:Int):=by omega
 have htp0:(0:Int)≤(tp:Int):=by omega
 obtain ⟨bA,oA,rfl,hcA⟩:=HA.o.at (by rw [HLA.o];omega);have hcc:la≤c:=by obtain ⟨A',c',h1,h2,-⟩:=HA.o;obtain ⟨-,hq,rfl⟩:=Value.slice.inj h1;have:=HLA.o;omega
 have HCA:=qh hcA;clear hcA;rw [htp] at htI htI2;go_enter Tryz.func209,Tryz.ntmps209;go_upto_region 2 with (at_make;go_loud (refine wpList_make_blk _ rfl (.tmp 14) (.tmp 14) 66 rfl 3 i3 (.int .i64 0) Tryz.underlying66 hi3 hz0 hz1 rfl .i64 .i64 _ _ la rfl rfl (by simp) (by simp) (by rw [hz2];omega) (by unfold maxLen;omega) ?_))
 refine wp_letter (fun w1=>Blk w1 w.heap.size 3 (nums (List.replicate la 0))∧Below w.heap.size w w1∧w1.heap.size=w.heap.size+1) ⟨Blk.made _ 3 _ _ _ rfl (by simp [nums]),(Below.refl _ _).alloc ql _,by simp⟩ ?_;rintro w1 ⟨b1,hb1,hs1⟩;have HQ1:=qh b1;have HB1:=qh hb1;have HS1:=qh hs1;have hA1:=HA.o.below HB1.o ql;have HA1:=qh hA1;have htpn:tp≤la:=by omega
 have hdl:(a.drop tp).length=la - tp:=by rw [List.length_drop,HLA.o]
 have HDL:=qh hdl
 have hsl:∃ o2,(if c=tp then some (⟨bA,oA,none⟩:Addr) else some ⟨bA,oA+tp,none⟩)=some ⟨bA,o2,none⟩∧IL w1 (some ⟨bA,o2,none⟩) (la - tp) (c - tp) (a.drop tp):=by
  by_cases hct:c=tp
  ·refine ⟨oA,if_pos hct,?_⟩;have h1:a.drop tp=[]:=List.drop_eq_nil_of_le (by rw [HLA.o];omega);rw [h1,show la - tp=0 by omega];exact SlC.nil _ _ _ _
  ·exact ⟨oA+tp,if_neg hct,HA1.o.drop tp htpn⟩
 obtain ⟨o2,ho2,hil1⟩:=hsl;have HO2:=qh ho2;have HIL1:=qh hil1;clear hil1;have HTP:=qh htp;clear b1 hb1 hs1 hA1 hdl;go_upto_region 5 with fail;go_wp2_with (at_builtin;go_loud (refine wpList_append_own_at _ (by rfl) _ _ 66 (by rfl) w1.heap.size 3 i3 (.int .i64 0) 1 8 Tryz.underlying66 hi3 hz0 hz1 hz2 rfl (by decide) (.slice (some ⟨w1.heap.size,0,none⟩) 0 0) 0 [] (by rfl) (own_lit0 w1 _ ql) ⟨bA,o2,none⟩ (la - tp) (c - tp) (nums (a.drop tp)) (by first|rfl|(show Value.slice (if c=tp then some (⟨bA,oA,none⟩:Addr) else some ⟨bA,oA+tp,none⟩) (la - tp) (c - tp)=_;rw [HO2.o])) (by simp [nums,HLA.o]) (HIL1.o.alloc _).news (nums_one _) (by omega) (by omega) (by simp) ?_);intro v2 w2 hown hgrow hnil hat;go_loud (obtain ⟨VA,vc,hv2,hil,hno2⟩:=(show OwnN w2 w1.heap.size v2 (a.drop tp) from ownN_of (l':=[]) hown (by simp [HLA.o])).il);rw [HDL.o] at hv2 hil;subst hv2;have HIL2:=qh hil;have HNO2:=qh hno2;have HG2:=qh hgrow;clear hown hgrow hnil hat hil hno2)
 obtain ⟨R0,hR0⟩:∃ R0,v4 (a.drop tp)=R0:=⟨_,rfl⟩;have hw0:W4 (a.drop tp):=fun x hx=>HWA.o x (List.mem_of_mem_drop hx);have htr:trim4 (a.drop tp)=d4 R0:=by rw [trim_d4 hw0,hR0]
 have hRY:R0<Y:=by
  rw [← hR0];refine Nat.lt_of_lt_of_le (v4_lt hw0) (Nat.le_trans ?_ HLOW.o);exact Nat.pow_le_pow_right (by omega) (by rw [HDL.o];have:=HTP.o;omega)
 have H12:Hid (Below w1.heap.size w1 w2):=own_row ((Below.refl _ _).alloc ql _) HG2.o (fun k hk=>by cases hk;exact ql);have HQ2:Hid (Blk w2 w.heap.size 3 (nums (List.replicate la 0))):=HQ1.o.below H12.o HQ1.o.lt;have HB2:Hid (Below w.heap.size w w2):=HB1.o.trans (H12.o.mono HB1.o.size);have HR0:=qh hR0;have HRY:=qh hRY;have HTR:=qh htr;clear hR0 hw0 htr hRY HG2 htp ho2;refine (ref_trim w2 VA (la - tp) vc (a.drop tp) HIL2.o (by rw [HDL.o];omega)).mono ?_;rw [HTR.o];rintro e w3 ⟨m2,rfl,hil3,h3⟩;subst w3;have HD2:Hid (D4 w2 VA m2 vc R0):=⟨hil3,HNO2.o⟩;clear hil3 HIL2 HNO2 H12 HQ1 HA1 HIL1 HO2 HS1 HB1;dsimp only;go_wp2_with fail;go_loopw [8,9] (fun s8 s9 wr=>∃ (m R:Nat) (A1:Option Addr) (n1 c1:Nat) (Q:List Nat),s8=.slice A1 n1 c1∧s9=.int .i64 ((m:Int) - 1)∧m≤la∧D4 wr A1 n1 c1 R∧R<Y∧Q.length=la∧W4 Q∧v4 (a.drop m)=v4 (Q.drop m) * Y+R∧Blk wr w.heap.size 3 (nums Q)∧Below w.heap.size w wr) (fun _ s9 _=>(intOf s9+1).toNat)
 case atStart=>exact ⟨tp,R0,VA,m2,vc,List.replicate la 0,rfl,rfl,by omega,HD2.o,HRY.o,by simp,(fun x hx=>by rw [List.eq_of_mem_replicate hx];omega),by rw [HR0.o,List.drop_replicate,v4_rep];omega,HQ2.o,HB2.o⟩
 case round =>
  obtain ⟨m,R,A1,n1,c1,Q,rfl,rfl,hm,hD,hR,hQl,hQw,hv,hQ,hbw⟩:=hrel;obtain ⟨wo,rfl⟩:∃ wo:World,wo=wr:=⟨_,rfl⟩;have HD:=qh hD;have HR:=qh hR;have HQL:=qh hQl;have HQW:=qh hQw;have HV:=qh hv;have HQ:=qh hQ;have HBW:=qh hbw;clear hD hR hQl hQw hv hQ hbw HD2 HRY HR0 HTR HQ2 HB2;cases m with
  | zero =>
   have hq:v4 Q=X / Y∧R=X % Y:=by
    have h:=HV.o;rw [List.drop_zero,List.drop_zero,HVA.o] at h;have h2:=HR.o;have h3:=HY0.o;rw [h,Nat.mul_comm,Nat.mul_add_div (by omega),Nat.mul_add_mod,Nat.div_eq_of_lt h2,Nat.mod_eq_of_lt h2];exact ⟨rfl,rfl⟩
   have HQ3:=qh hq;clear hq;go_wp2_with fail;refine (ref_trimA wo (some ⟨w.heap.size,0,none⟩) la la Q (IL_blk HQ.o HQL.o) (fun h=>by cases h) HQW.o (by rw [HQL.o];omega)).mono ?_;rw [HQ3.o.1];rintro e w1 ⟨⟨n2,rfl,hd⟩,h1⟩;subst w1;have HE:=qh hd;clear hd;dsimp only;go_wp2_with fail;go_ret2
   exact ⟨⟨_,n2,la,A1,n1,c1,rfl,HE.o,(by rw [← HQ3.o.2];exact HD.o),fun k h=>own_some h⟩,HBW.o⟩
  | succ m =>
   have hz2:(((m+1:Nat):Int) - 1)=(m:Int):=by omega
   rw [hz2];have hma:m<a.length:=by rw [HLA.o];omega
   obtain ⟨x,hx⟩:∃ x,a.getD m 0=x:=⟨_,rfl⟩;have hx4:x<10000:=by rw [← hx];exact getD_lt4 HWA.o m
   have kA0:=HCA.o m x (by rw [← hx,List.getD_eq_getElem?_getD,List.getElem?_eq_getElem hma];rfl);have kA:=(HBW.o.cell (p:=⟨bA,oA+m,none⟩) (World.block_lt_of_cell? w _ kA0)).trans kA0;have hm0:(0:Int)≤(m:Int):=by omega
   have hml:(m:Int)<(la:Int):=by omega
   have HX:=qh hx;have hrl:(d4 R).length≤lb:=d4_len (Nat.lt_trans HR.o HHIGH.o);have hbz:=HBW.o.size;have hqz:=HQ.o.lt;have HBZ:Hid (w.heap.size+1≤wo.heap.size):=by show _≤_;omega
   have HRL:=qh hrl;clear hz2 hma hx kA0 hrl;go_wp2_with (at_builtin;go_loud (refine wpList_app_nums (by rfl) _ _ (by rfl) (w.heap.size+1) (.slice (some ⟨wo.heap.size,0,none⟩) 1 1) [x] (d4 R) (by rfl) (own_lit1 wo _ _ HBZ.o) A1 n1 c1 (by rfl) (HD.o.1.alloc _) HD.o.2 (by have:=HRL.o;simp;omega) (by have:=HBZ.o;simp;omega) ?_);intro v2 w2 hown hgrow;obtain ⟨VA,vc,hv2,hil,hno2⟩:=hown.il;have HBK:Hid (∀ k,v2.ownBlock=some k→w.heap.size+1≤k):=(fun k hk=>(World.ownsRow.lt hown k hk).1);subst hv2;have HIL2:=qh hil;have HNO2:=qh hno2;have HG2:=qh hgrow;clear hown hgrow hil hno2)
   have hv2:v4 ([x] ++ d4 R)=x+10000 * R:=by simp [v4,v4_d4]
   have hw2:W4 ([x] ++ d4 R):=by
    intro z hz;rcases List.mem_append.1 hz with h|h
    ·obtain rfl:=List.mem_singleton.1 h;exact hx4
    ·exact w4_d4 R z h
   have htr:trim4 ([x] ++ d4 R)=d4 (x+10000 * R):=by rw [trim_d4 hw2,hv2]
   have H12:Hid (Below wo.heap.size wo w2):=own_row ((Below.refl _ _).alloc ql _) HG2.o (fun k hk=>by cases hk;exact ql);have HQ2:Hid (Blk w2 w.heap.size 3 (nums Q)):=HQ.o.below H12.o HQ.o.lt;have HB2:Hid (Below w.heap.size w w2):=HBW.o.trans (H12.o.mono HBW.o.size);have HTR:=qh htr;have hk2:([x] ++ d4 R).length=(d4 R).length+1:=by simp
   have HK2:=qh hk2;have hil2:=HIL2.o;rw [hk2] at hil2;have HIL3:=qh hil2;clear hv2 hw2 htr HG2 hk2 hil2 kA HD HIL2;refine (ref_trim w2 VA ((d4 R).length+1) vc ([x] ++ d4 R) HIL3.o (by rw [HK2.o];have:=HRL.o;omega)).mono ?_;rw [HTR.o];rintro e w3 ⟨m3,rfl,hil3,h3⟩;subst w3;obtain ⟨R2,hR2⟩:∃ R2,x+10000 * R=R2:=⟨_,rfl⟩;rw [hR2] at hil3;have hR2Y:R2<Y * (9999+1):=by have:=HR.o;omega
   have HD2:Hid (D4 w2 VA m3 vc R2):=⟨hil3,HNO2.o⟩;have HR2:=qh hR2;have HR2Y:=qh hR2Y;have hr2l:(d4 R2).length≤lb+1:=d4_len (by have h1:=HHIGH.o;rw [Nat.pow_succ];have h2:=HR2Y.o;omega);have HR2L:=qh hr2l;clear hil3 hR2 hR2Y hr2l HIL3 HNO2 H12 HTR HQ HBW HBZ hbz hqz HK2;dsimp only;go_wp2_with fail;go_loopw [10,11] (fun s10 s11 wr=>∃ (lo hi:Nat),s10=.int .i64 lo∧s11=.int .i64 hi∧lo≤hi∧hi≤9999∧Y * lo≤R2∧R2<Y * (hi+1)∧Below w2.heap.size w2 wr) (fun s10 s11 _=>(intOf s11 - intOf s10).toNat)
   case atStart=>exact ⟨0,9999,rfl,rfl,by omega,by omega,by omega,HR2Y.o,Below.refl _ _⟩
   case round =>
    obtain ⟨lo,hi,rfl,rfl,hlh,hh9,hlo,hhi,hbx⟩:=hrel;obtain ⟨wi,rfl⟩:∃ wi:World,wi=wr:=⟨_,rfl⟩;have HLO:=qh hlo;have HHI:=qh hhi;have HBX:=qh hbx;clear hlo hhi hbx;by_cases hlt:lo<hi
    ·have hltI:(lo:Int)<(hi:Int):=by omega
     obtain ⟨t,ht⟩:∃ t,(lo+hi+1) / 2=t:=⟨_,rfl⟩;have htI:((lo:Int)+(hi:Int)+1).tdiv 2=(t:Int):=by rw [Int.tdiv_eq_ediv_of_nonneg (by omega)];omega
     have ht1:lo<t:=by omega
     have ht2:t≤hi:=by omega
     have htu:(t:Int) % 18446744073709551616=(t:Int):=by omega
     clear ht;go_wp2_with fail;refine (ref_Small wi t (by omega)).mono ?_;rintro e w4 ⟨⟨A4,n4,c4,rfl,hd4⟩,hb4⟩;have HD4:=qh hd4;have HB4:=qh hb4;have HBY4:Hid (D4 w4 B lb d Y):=HB.o.below ((HB2.o.trans (HBX.o.mono HB2.o.size)).trans (HB4.o.mono (Nat.le_trans HB2.o.size HBX.o.size))) ql;have htl:(d4 t).length≤1:=d4_len (by omega);clear hd4 hb4;dsimp only;go_wp2_with fail;refine (ref_Mul w4 B A4 lb d n4 c4 Y t HBY4.o HD4.o (by rw [HLB.o];omega) (by omega)).mono ?_;rintro e w5 ⟨⟨A5,n5,c5,rfl,hd5⟩,hb5⟩;have HD5:=qh hd5;have hb25:Below w2.heap.size w2 w5:=(HBX.o.trans (HB4.o.mono HBX.o.size)).trans (hb5.mono (Nat.le_trans HBX.o.size HB4.o.size));have HB25:=qh hb25;clear hd5 hb5 hb25;dsimp only;go_wp2_with fail;obtain ⟨z,hz3⟩:∃ z,cmpN (Y * t) R2=z:=⟨_,rfl⟩;refine (ref_Cmp w5 A5 VA n5 c5 m3 vc (Y * t) R2 HD5.o (HD2.o.below HB25.o ql) (Nat.le_trans (d4_len (n:=lb+1) (by rw [Nat.pow_succ];exact Nat.mul_lt_mul'' HHIGH.o (by omega))) (by omega)) (by have:=HR2L.o;omega)).mono ?_;rw [hz3];rintro e w6 ⟨rfl,hb6⟩;have HB26:Hid (Below w2.heap.size w2 w6):=HB25.o.trans (hb6.mono HB25.o.size);have HZ:=qh hz3;clear hb6 hz3 HB25;dsimp only;by_cases hle:Y * t≤R2
     ·have hzI:z≤0:=by rw [← HZ.o];unfold cmpN;split;omega;split <;> omega
      have HLE:=qh hle;clear hle;go_wp2_with fail;refine ⟨⟨t,hi,rfl,rfl,ht2,hh9,HLE.o,HHI.o,HB26.o⟩,by simp [intOf];omega⟩
     ·have hzI:¬ z≤0:=by rw [← HZ.o];unfold cmpN;rw [if_neg (by omega),if_neg (by omega)];omega
      have HLE:=qh hle;clear hle;go_wp2_with fail;refine ⟨⟨lo,t - 1,rfl,by have:(t:Int) - 1=((t - 1:Nat):Int):=(by omega);rw [this],by omega,by omega,HLO.o,by rw [Nat.sub_add_cancel (by omega)];have:=HLE.o;omega,HB26.o⟩,by simp [intOf];omega⟩
    ·have hltI:¬ (lo:Int)<(hi:Int):=by omega
     obtain rfl:lo=hi:=by omega
     have HQ3:Hid (Blk wi w.heap.size 3 (nums Q)):=HQ2.o.below HBX.o HQ2.o.lt
     have hqn:(nums Q)[m]?=some (.int .i64 ((Q.getD m 0:Nat):Int)):=by
      have h1:m<Q.length:=by rw [HQL.o];omega
      simp [nums,List.getD_eq_getElem?_getD,List.getElem?_eq_getElem h1]
     have kq:=(HQ3.o.cell m).trans hqn;have fq:=HQ3.o.frozen m;have HB3:Hid (Below w.heap.size w wi):=HB2.o.trans (HBX.o.mono HB2.o.size);have HD3:Hid (D4 wi VA m3 vc R2):=HD2.o.below HBX.o ql;clear hqn HQ2 HB2 HD2;go_upto_region 18 with fail;refine wp_letter (fun w5=>Blk w5 w.heap.size 3 (nums (Q.set m lo))∧D4 w5 VA m3 vc R2∧Below w.heap.size w w5) ⟨?_,HD3.o.far HBK.o m _,HB3.o.setCell ql _⟩ ?_
     ·have h:=HQ3.o.put m (.int .i64 (lo:Int));rw [nums_set] at h;exact h
     rintro w5 ⟨hq5,hd5,hb5⟩;have HQ5:=qh hq5;have HD5:=qh hd5;have HB5:=qh hb5;have hlo9:(lo:Int)≤9999:=by omega
     have htu:(lo:Int) % 18446744073709551616=(lo:Int):=by omega
     clear hq5 hd5 hb5 kq fq HQ3 HD3 HB3;go_wp2_with fail;refine (ref_Small w5 lo (by omega)).mono ?_;rintro e w6 ⟨⟨A6,n6,c6,rfl,hd6⟩,hb6⟩;have HD6:=qh hd6;have HB6:=qh hb6;have HBY6:Hid (D4 w6 B lb d Y):=HB.o.below (HB5.o.trans (HB6.o.mono HB5.o.size)) ql;have htl:(d4 lo).length≤1:=d4_len (by omega);clear hd6 hb6;dsimp only;go_wp2_with fail;refine (ref_Mul w6 B A6 lb d n6 c6 Y lo HBY6.o HD6.o (by rw [HLB.o];omega) (by omega)).mono ?_;rintro e w7 ⟨⟨A7,n7,c7,rfl,hd7⟩,hb7⟩;have hb57:Below w5.heap.size w5 w7:=HB6.o.trans (hb7.mono HB6.o.size);have HB57:=qh hb57;have HD7:=qh hd7;clear hd7 hb7 hb57;dsimp only;go_wp2_with fail;refine (ref_Sub w7 VA A7 m3 vc n7 c7 R2 (Y * lo) (HD5.o.below HB57.o ql) HD7.o (by have:=HR2L.o;omega) (Nat.le_trans (d4_len (n:=lb+1) (by rw [Nat.pow_succ];exact Nat.mul_lt_mul'' HHIGH.o (by omega))) (by omega)) HLO.o).mono ?_;rintro e w8 ⟨⟨A8,n8,c8,rfl,hd8⟩,hb8⟩;have HB58:Hid (Below w5.heap.size w5 w8):=HB57.o.trans (hb8.mono HB57.o.size);have HD8:=qh hd8;clear hd8 hb8;dsimp only;go_wp2_with fail;refine ⟨⟨m,R2 - Y * lo,A8,n8,c8,Q.set m lo,rfl,rfl,by omega,HD8.o,by have h1:=HHI.o;rw [Nat.mul_add,Nat.mul_one] at h1;have h2:=HLO.o;omega,by rw [List.length_set];exact HQL.o,w4_set HQW.o m lo (by omega),div_last4 HV.o HX.o HR2.o HLO.o (by rw [HQL.o];omega),HQ5.o.below HB58.o HQ5.o.lt,HB5.o.trans (HB58.o.mono HB5.o.size)⟩,by simp [intOf]⟩
theorem ref_Div (w:World) (A B:Option Addr) (n c m d X Y:Nat) (h:D4 w A n c X) (h':D4 w B m d Y) (hl:(d4 X).length≤90000) (hl':(d4 Y).length≤90000) (hY:Y≠0) :
  Calls Tryz.prog 209 #[.slice A n c,.slice B m d] w fun e w'=>RetDD e w' (X / Y) (X % Y)∧Below w.heap.size w w' :=
 (ref_DivF w A B n c m d X Y h h' hl hl' hY).mono fun e w' ⟨⟨A1,n1,c1,A2,n2,c2,he,h1,h2,_⟩,hb⟩=>⟨⟨A1,n1,c1,A2,n2,c2,he,h1,h2⟩,hb⟩
end Go.Proofs.YtdgleeglndcjhaaGreatDoor
