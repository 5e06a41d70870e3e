import Derived.Test.YtdgleeglndcjhaaGreatDoorX12
import Derived.Laws.BitsAllLaws
import Derived.Laws.BitsLemmas
set_option linter.unusedVariables false
set_option maxHeartbeats 1000000
set_option maxRecDepth 100000
namespace Go.Proofs.YtdgleeglndcjhaaGreatDoor
open Go.RowKit
theorem nat_Add (w:World) (x y:Value) (a b:List Nat) (hx:RL w x a) (hy:RL w y b) (ha:a.length≤100000000) (hb:b.length≤100000000) :
  Calls Tryz.prog 202 #[.agg #[x],.agg #[y]] w fun e w'=>∃ v,e=.returned (.agg #[v])∧RN w' v (val a+val b)∧Below w.heap.size w w':=by
 obtain ⟨i0,hi,hz0,hz1,hz2⟩:=info_parts Tryz_info43;have HX:=qh hx;have HY:=qh hy;obtain ⟨A,c,rfl,hc,hdum⟩:=hx.form;obtain ⟨A2,c2,rfl,hc2,hdum2⟩:=hy.form;clear hx hy hdum hdum2
 obtain ⟨n,hna,hnb,hn⟩:∃ n,a.length≤n∧b.length≤n∧(a.length<b.length∧n=b.length∨¬ a.length<b.length∧n=a.length):=by
  by_cases h:a.length<b.length
  ·exact ⟨b.length,by omega,ql,.inl ⟨h,rfl⟩⟩
  ·exact ⟨a.length,ql,by omega,.inr ⟨h,rfl⟩⟩
 rcases hn with ⟨hlt,hn⟩|⟨hlt,hn⟩
 all_goals
  have hn8:n≤100000000:=by omega
  have Hn:=qh hn;clear hn;go_enter Tryz.func202,Tryz.ntmps202;go_wp2_with (at_make;go_loud (refine wpList_make_blk _ rfl (.tmp 15) (.tmp 15) 22 rfl 43 i0 (.int .u32 0) Tryz.underlying22 hi hz0 hz1 rfl .i64 .i64 _ _ (n+1) rfl rfl (by rw [Hn.o];simp) (by rw [Hn.o];simp) (by rw [hz2];omega) (by unfold maxLen;omega) ?_))
  go_wp2_with fail
  go_loopw [6,19] (fun s6 s19 wr=>∃ (k q:Nat) (done:List Nat),s19=.int .i64 k∧s6=.int .u64 q∧k≤n+1∧q≤1∧done.length=k∧Wd done ∧
    val done+q * 4294967296 ^ k=val (a.take k)+val (b.take k) ∧
    Blk wr w.heap.size 24 [.slice A a.length c]∧Blk wr (w.heap.size+1) 24 [.slice A2 b.length c2]∧Blk wr (w.heap.size+1+1) 24 [.slice none 0 0] ∧
    Blk wr (w.heap.size+1+1+1) 43 (U32 (done ++ List.replicate (n+1 - k) 0))∧Below w.heap.size w wr) (fun _ i _=>n+1 - (intOf i).toNat)
  case atStart =>
   refine ⟨0,0,[],rfl,rfl,by omega,by omega,rfl,Wd.nil,by simp [val],?_,?_,?_,?_,?_⟩
   ·exact (((Blk.made w 24 _ _ _ rfl rfl).alloc _).alloc _).alloc _
   ·exact ((Blk.made _ 24 _ _ _ (by simp) rfl).alloc _).alloc _
   ·exact (Blk.made _ 24 _ _ _ (by simp) rfl).alloc _
   ·exact Blk.made _ 43 _ _ _ (by simp) (by simp [U32])
   ·exact ((((Below.refl _ _).alloc ql _).alloc (by simp) _).alloc (by simp;omega) _).alloc (by simp;omega) _
  case round =>
   obtain ⟨k,q,done,rfl,rfl,hk,hq,hdl,hdw,hv,B0,B1,B2,B3,hbw⟩:=hrel;have Hv:=qh hv;have Hdl:=qh hdl;have c0:=B0.c1;have c1:=B1.c1;clear hv hdl;by_cases hkn:k<n+1
   ·have hR:=rep_pos (n+1 - k) (by omega);rw [hR] at B3;have HRep:=qh hR;clear hR;have hc3:=(B3.cell k).trans (U32_get _ k (by simp [Hdl.o]));have hf3:=B3.frozen k;have HR:=add_round Hdl.o Hv.o;have hsa:=HX.o.2.getD k;have hsb:=HY.o.2.getD k;have HX':Hid (RL wr _ a):=HX.o.below hbw ql;have HY':Hid (RL wr _ b):=HY.o.below hbw ql;generalize hs:a.getD k 0=s at *
    generalize ht:b.getD k 0=t at *
    have Hs:=qh hs;have Ht:=qh ht;have Hr:=qh HR;have HB0:=qh B0;have HB1:=qh B1;have HB2:=qh B2;have HB3:=qh B3;have HBw:=qh hbw;have hkn':(k:Int)<(n:Int)+1:=by omega
    have h64:IntKind.u64.wrap ((s:Int)+t)=(s:Int)+t:=IntWalk.u64_in _ ⟨by omega,by omega⟩;have h64b:IntKind.u64.wrap ((q:Int)+((s:Int)+t))=(q:Int)+((s:Int)+t):=IntWalk.u64_in _ ⟨by omega,by omega⟩
    have CA:Hid (∀ m,Calls Tryz.prog 198 #[.slice A a.length c,.int .i64 k] (wr.drewN m) fun e w'=>e=.returned (.int .u64 s)∧wr.drewN m=w'):=fun m=>by
     have h:=nat_at _ _ a k (HX'.o.drewN m) (by omega) (by omega);rw [Hs.o] at h;exact h
    have CB:Hid (∀ m,Calls Tryz.prog 198 #[.slice A2 b.length c2,.int .i64 k] (wr.drewN m) fun e w'=>e=.returned (.int .u64 t)∧wr.drewN m=w'):=fun m=>by
     have h:=nat_at _ _ b k (HY'.o.drewN m) (by omega) (by omega);rw [Ht.o] at h;exact h
    clear hs ht HR B0 B1 B2 B3 hbw;go_wp2_with fail;go_quiet (first|(with_reducible exact quiet_eq (CA.o _))|(with_reducible exact quiet_eq (CB.o _)));go_wp2_with fail;refine ⟨⟨k+1,(q+(s+t)) / 4294967296,done ++ [(q+(s+t)) % 4294967296],by go_num,by go_num,by omega,by omega,by rw [List.length_append,Hdl.o];rfl,hdw.append (Wd.one (by omega)),Hr.o,?_,?_,?_,?_,?_⟩,by simp [intOf];omega⟩
    ·exact ((HB0.o.drewN _).far _ _ (by simp;try omega))
    ·exact ((HB1.o.drewN _).far _ _ (by simp;try omega))
    ·exact ((HB2.o.drewN _).far _ _ (by simp;try omega))
    ·have h:=(HB3.o.drewN nq).put k (.int .u32 (((q+(s+t)) % 4294967296:Nat):Int));rw [U32_set,set_mid _ _ _ _ _ Hdl.o,show n+1 - k - 1=n+1 - (k+1) by omega] at h;have e:((((q+(s+t)) % 4294967296:Nat)):Int)=((q:Int)+((s:Int)+t)) % 4294967296:=by omega
     rw [e] at h;exact h
    ·exact (below_drewN HBw.o _).setCell (by simp;try omega) _
   ·obtain rfl:k=n+1:=by omega
    have hE:=add_end Hdl.o hdw HX.o.2 HY.o.2 hna hnb Hv.o;have HE:=qh hE;rw [Nat.sub_self,List.replicate_zero,List.append_nil] at B3;have hR:RL wr (.slice (some ⟨w.heap.size+1+1+1,0,none⟩) (n+1) (n+1)) done:=RL_blk B3 hdw (n+1) Hdl.o.symm;have HRL:=qh hR;obtain ⟨c2,hf2⟩:=B2.cf1;have HB2:=qh B2;have HBw:=qh hbw;clear hE hR B0 B1 B2 B3 hbw c0 c1;go_wp2_with ((go_at_call 63;refine (nat_trim _ _ done HRL.o (by rw [Hdl.o];omega)).mono ?_;rintro e w' ⟨v',rfl,hr',hb'⟩;have HR':=qh hr';obtain ⟨A',cc',rfl,-⟩:=hr'.form;have hB2':=HB2.o.below hb' HB2.o.lt;have hc2':=hB2'.cell 0;have hf2':=hB2'.frozen 0;simp only [M2] at hc2';have HB2':=qh hB2';have Hb':=qh hb';clear hr' hB2' hb'))
    refine bodyPost_ret (v:=.agg #[.slice A' _ cc']) (by simp [results,Tryz.results202,go_sem,hc2'];try rfl) rfl ?_;refine ⟨_,rfl,?_,?_⟩
    ·rw [← HE.o];exact HR'.o.far HB2'.o (by simp) _ _
    ·exact (HBw.o.trans (Hb'.o.mono HBw.o.size)).setCell (by simp;omega) _
theorem nat_Of (w:World) (n:Nat) (hn:n<18446744073709551616) :
  Calls Tryz.prog 18 #[.int .u64 n] w fun e w'=>∃ v,e=.returned (.agg #[v])∧RN w' v n∧Below w.heap.size w w':=by
 have hv:val [n % 4294967296,n / 4294967296]=n:=by simp only [val];omega
 have Hv:=qh hv;have hd:Wd [n % 4294967296,n / 4294967296]:=by intro x hx;simp at hx;omega
 have Hd:=qh hd;have h1:(n:Int) / 4294967296<4294967296:=by omega
 have h2:(0:Int)≤(n:Int) / 4294967296:=by omega
 clear hn hv hd;go_enter Tryz.func18,Tryz.ntmps18;go_wp2_with fail;have B0:Blk ((w.alloc (Obj.cells #[Value.slice none 0 0] 24)).alloc (Obj.cells #[Value.int IntKind.u32 (↑n % 4294967296),Value.int IntKind.u32 (↑n / 4294967296)] 43)) w.heap.size 24 [.slice none 0 0]:=(Blk.made w 24 _ _ _ rfl rfl).alloc _;have B1:Blk ((w.alloc (Obj.cells #[Value.slice none 0 0] 24)).alloc (Obj.cells #[Value.int IntKind.u32 (↑n % 4294967296),Value.int IntKind.u32 (↑n / 4294967296)] 43)) (w.heap.size+1) 43 (U32 [n % 4294967296,n / 4294967296]):=Blk.made _ 43 _ _ _ (by simp) (by simp [U32]);refine (nat_trim _ _ _ (RL_blk B1 Hd.o 2 rfl) (by simp)).mono ?_;rintro e w' ⟨v,rfl,hr,hb⟩;rw [Hv.o] at hr;obtain ⟨A,c,rfl,-⟩:=hr.form;have B2:=B0.below hb B0.lt;obtain ⟨c2,f2⟩:=B2.cf1;have HR:=qh hr;have HB:=qh B2;have Hb:=qh hb;clear hr hb B0 B1 B2
 go_wp2
 refine bodyPost_ret (v:=.agg #[.slice A _ c]) (by simp [results,Tryz.results18,go_sem,c2];try rfl) rfl ?_;refine ⟨_,rfl,HR.o.far HB.o (by simp) _ _,?_⟩;exact ((((Below.refl _ _).alloc ql _).alloc (by simp) _).trans (Hb.o.mono (by simp;omega))).setCell (by simp) _
theorem u64_and1 (z:Nat) (h:z<18446744073709551616):Go.bits .and .u64 (z:Int) 1=((z % 2:Nat):Int):=by
 have:=Go.u64_and_nat z 1 h (by omega);rw [Nat.and_one_is_mod] at this;exact this
theorem sub_word (s t q:Nat) (hs:s<4294967296) (ht:t<4294967296) (hq:q≤1) :
  ∃ d x r:Nat,IntKind.u64.wrap (IntKind.u64.wrap ((s:Int) - (t:Int)) - (q:Int))=(d:Int)∧(d:Int) % 4294967296=x∧Go.bits .and .u64 ((d:Int) / 4294967296) 1=r∧r≤1∧(x<4294967296∧x+t+q=s+r * 4294967296):=by
 have hw:∀ n:Int,IntKind.u64.wrap n=n % 18446744073709551616:=fun n=>by simp [IntKind.wrap,IntKind.bits,IntKind.signed]
 simp only [hw];by_cases h:t+q≤s
 ·refine ⟨s - t - q,s - t - q,0,by omega,by omega,?_,by omega,by omega,by omega⟩;rw [show ((s - t - q:Nat):Int) / 4294967296=((0:Nat):Int) by omega,u64_and1 0 (by omega)]
 ·refine ⟨18446744073709551616+s - t - q,4294967296+s - t - q,1,by omega,by omega,?_,by omega,by omega,by omega⟩;rw [show ((18446744073709551616+s - t - q:Nat):Int) / 4294967296=((4294967295:Nat):Int) by omega,u64_and1 _ (by omega)]
theorem nat_Sub (w:World) (x y:Value) (a b:List Nat) (hx:RL w x a) (hy:RL w y b) (ha:a.length≤100000000) (hb:b.length≤100000000) (hle:val b≤val a) :
  Calls Tryz.prog 203 #[.agg #[x],.agg #[y]] w fun e w'=>∃ v,e=.returned (.tuple #[.agg #[v],.bool true])∧RN w' v (val a - val b)∧Below w.heap.size w w':=by
 obtain ⟨i0,hi,hz0,hz1,hz2⟩:=info_parts Tryz_info43;have HX:=qh hx;have HY:=qh hy;obtain ⟨A,c,rfl,hc,hdum⟩:=hx.form;obtain ⟨A2,c2,rfl,hc2,hdum2⟩:=hy.form
 have hcmp:decide (cmpN (val a) (val b)<0)=false:=by
  rcases Nat.lt_or_ge (val b) (val a) with h|h
  ·rw [cmpN_gt h];rfl
  ·rw [cmpN_eq (by omega)];rfl
 generalize hcc:cmpN (val a) (val b)=cc at hcmp;have Hcc:=qh hcc;clear hx hy hdum hdum2 hcc;go_enter Tryz.func203,Tryz.ntmps203;go_wp2_with fail;have B0:Blk (((w.alloc (.cells #[.slice A a.length c] 24)).alloc (.cells #[.slice A2 b.length c2] 24)).alloc (.cells #[.slice none 0 0] 24)) w.heap.size 24 [.slice A a.length c]:=((Blk.made w 24 _ _ _ rfl rfl).alloc _).alloc _;have B1:Blk (((w.alloc (.cells #[.slice A a.length c] 24)).alloc (.cells #[.slice A2 b.length c2] 24)).alloc (.cells #[.slice none 0 0] 24)) (w.heap.size+1) 24 [.slice A2 b.length c2]:=(Blk.made _ 24 _ _ _ (by simp) rfl).alloc _;have B2:Blk (((w.alloc (.cells #[.slice A a.length c] 24)).alloc (.cells #[.slice A2 b.length c2] 24)).alloc (.cells #[.slice none 0 0] 24)) (w.heap.size+1+1) 24 [.slice none 0 0]:=(Blk.made _ 24 _ _ _ (by simp) rfl);have BB:Below w.heap.size w (((w.alloc (.cells #[.slice A a.length c] 24)).alloc (.cells #[.slice A2 b.length c2] 24)).alloc (.cells #[.slice none 0 0] 24)):=(((Below.refl _ _).alloc ql _).alloc (by simp) _).alloc (by simp;omega) _;refine (nat_Cmp _ _ _ a b (HX.o.below BB ql) (HY.o.below BB ql) (by omega) (by omega)).mono ?_;rintro e w1 ⟨rfl,hb1⟩;rw [Hcc.o];have hz:w.heap.size+1+1+1≤w1.heap.size:=by have:=hb1.size;simp at this;omega
 replace B0:=B0.below hb1 B0.lt;replace B1:=B1.below hb1 B1.lt;replace B2:=B2.below hb1 B2.lt;replace BB:=BB.trans (hb1.mono BB.size);clear hb1;have c0:=B0.c1;have c1:=B1.c1;have HB0:=qh B0;have HB1:=qh B1;have HB2:=qh B2;have HBB:=qh BB;clear B0 B1 B2 BB;generalize hn:a.length=n at *
 have Hn:=qh hn;clear hn;go_wp2_with (at_make;go_loud (refine wpList_make_blk _ rfl (.tmp 17) (.tmp 17) 22 rfl 43 i0 (.int .u32 0) Tryz.underlying22 hi hz0 hz1 rfl .i64 .i64 _ _ n rfl rfl rfl rfl (by rw [hz2];omega) (by unfold maxLen;omega) ?_))
 go_wp2_with fail;generalize hg:w1.heap.size=g at *
 go_loopw [7,21] (fun s7 s21 wr=>∃ (k q:Nat) (done:List Nat),s21=.int .i64 k∧s7=.int .u64 q∧k≤n∧q≤1∧done.length=k∧Wd done ∧
   val done+val (b.take k)=val (a.take k)+q * 4294967296 ^ k ∧
   Blk wr w.heap.size 24 [.slice A n c]∧Blk wr (w.heap.size+1) 24 [.slice A2 b.length c2]∧Blk wr (w.heap.size+1+1) 24 [.slice none 0 0] ∧
   Blk wr g 43 (U32 (done ++ List.replicate (n - k) 0))∧Below w.heap.size w wr) (fun _ i _=>n - (intOf i).toNat)
 case atStart =>
  refine ⟨0,0,[],rfl,rfl,by omega,by omega,rfl,Wd.nil,by simp [val],HB0.o.alloc _,HB1.o.alloc _,HB2.o.alloc _,?_,HBB.o.alloc (by omega) _⟩;exact Blk.made _ 43 _ _ _ hg.symm (by simp [U32])
 case round =>
  obtain ⟨k,q,done,rfl,rfl,hk,hq,hdl,hdw,hv,B0,B1,B2,B3,hbw⟩:=hrel;have Hv:=qh hv;have Hdl:=qh hdl;have Hg:=qh hg;have c0:=B0.c1;have c1:=B1.c1;clear hv hdl hg;by_cases hkn:k<n
  ·have hR:=rep_pos (n - k) (by omega);rw [hR] at B3;have HRep:=qh hR;clear hR;have hc3:=(B3.cell k).trans (U32_get _ k (by simp [Hdl.o]));have hf3:=B3.frozen k;have hsa:=HX.o.2.getD k;have hsb:=HY.o.2.getD k;have HX':Hid (RL wr _ a):=HX.o.below hbw ql;have HY':Hid (RL wr _ b):=HY.o.below hbw ql;obtain ⟨d,x,r,hd1,hd2,hd3,hd4,hx4⟩:∃ d x r:Nat,IntKind.u64.wrap (IntKind.u64.wrap ((a.getD k 0:Nat) - (b.getD k 0:Nat)) - (q:Int))=(d:Int)∧(d:Int) % 4294967296=x∧Go.bits .and .u64 ((d:Int) / 4294967296) 1=r∧r≤1∧(x<4294967296∧x+b.getD k 0+q=a.getD k 0+r * 4294967296):=sub_word _ _ _ hsa hsb hq;have HR:Hid (_ ):=sub_round Hdl.o Hv.o hx4.2;generalize hs:a.getD k 0=s at *
   generalize ht:b.getD k 0=t at *
   have Hs:=qh hs;have Ht:=qh ht;have Hx4:=qh hx4;have HB0:=qh B0;have HB1:=qh B1;have HB2:=qh B2;have HB3:=qh B3;have HBw:=qh hbw;have hkn':(k:Int)<(n:Int):=by omega
   have CA:Hid (∀ m,Calls Tryz.prog 198 #[.slice A n c,.int .i64 k] (wr.drewN m) fun e w'=>e=.returned (.int .u64 s)∧wr.drewN m=w'):=fun m=>by
    have h:=nat_at _ _ a k (HX'.o.drewN m) (by rw [Hn.o];omega) (by omega);rw [Hs.o] at h;exact h
   have CB:Hid (∀ m,Calls Tryz.prog 198 #[.slice A2 b.length c2,.int .i64 k] (wr.drewN m) fun e w'=>e=.returned (.int .u64 t)∧wr.drewN m=w'):=fun m=>by
    have h:=nat_at _ _ b k (HY'.o.drewN m) (by omega) (by omega);rw [Ht.o] at h;exact h
   clear hs ht B0 B1 B2 B3 hbw hx4;go_wp2_with fail;go_quiet (first|(with_reducible exact quiet_eq (CA.o _))|(with_reducible exact quiet_eq (CB.o _)));go_wp2_with fail;refine ⟨⟨k+1,r,done ++ [x],by go_num,by go_num,by omega,hd4,by rw [List.length_append,Hdl.o];rfl,hdw.append (Wd.one Hx4.o.1),HR.o,?_,?_,?_,?_,?_⟩,by simp [intOf];omega⟩
   ·exact ((HB0.o.drewN _).far _ _ (by simp;try omega))
   ·exact ((HB1.o.drewN _).far _ _ (by simp;try omega))
   ·exact ((HB2.o.drewN _).far _ _ (by simp;try omega))
   ·have h:=(HB3.o.drewN nq).put k (.int .u32 (x:Int));rw [U32_set,set_mid _ _ _ _ _ Hdl.o,show n - k - 1=n - (k+1) by omega] at h;exact h
   ·exact (below_drewN HBw.o _).setCell (by simp;try omega) _
  ·obtain rfl:k=n:=by omega
   have HE:Hid _:=sub_end Hdl.o hdw HX.o.2 Hn.o hle Hv.o;rw [Nat.sub_self,List.replicate_zero,List.append_nil] at B3;have HRL:Hid (RL wr (.slice (some ⟨g,0,none⟩) k k) done):=RL_blk B3 hdw k Hdl.o.symm;obtain ⟨c2,hf2⟩:=B2.cf1;have HB2:=qh B2;have HBw:=qh hbw;clear B0 B1 B2 B3 hbw c0 c1;go_wp2_with ((go_at_call 63;refine (nat_trim _ _ done HRL.o (by rw [Hdl.o];omega)).mono ?_;rintro e w' ⟨v',rfl,hr',hb'⟩;have HR':=qh hr';obtain ⟨A',cc',rfl,-⟩:=hr'.form;have hB2':=HB2.o.below hb' HB2.o.lt;have hc2':=hB2'.cell 0;have hf2':=hB2'.frozen 0;simp only [M2] at hc2';have HB2':=qh hB2';have Hb':=qh hb';clear hr' hB2' hb'))
   refine bodyPost_ret (v:=.tuple #[.agg #[.slice A' _ cc'],.bool true]) (by simp [results,Tryz.results203,go_sem,hc2'];try rfl) rfl ?_;refine ⟨_,rfl,?_,?_⟩
   ·rw [← HE.o];exact HR'.o.far HB2'.o (by simp) _ _
   ·exact (HBw.o.trans (Hb'.o.mono HBw.o.size)).setCell (by simp;omega) _
theorem nat_Sub_no (w:World) (x y:Value) (a b:List Nat) (hx:RL w x a) (hy:RL w y b) (ha:a.length≤100000000) (hb:b.length≤100000000) (hlt:val a<val b) :
  Calls Tryz.prog 203 #[.agg #[x],.agg #[y]] w fun e w'=>e=.returned (.tuple #[.agg #[.slice none 0 0],.bool false])∧Below w.heap.size w w':=by
 have HX:=qh hx;have HY:=qh hy;obtain ⟨A,c,rfl,hc,hdum⟩:=hx.form;obtain ⟨A2,c2,rfl,hc2,hdum2⟩:=hy.form;have hcmp:decide (cmpN (val a) (val b)<0)=true:=by rw [cmpN_lt hlt];rfl
 generalize hcc:cmpN (val a) (val b)=cc at hcmp;have Hcc:=qh hcc;clear hx hy hdum hdum2 hcc;go_enter Tryz.func203,Tryz.ntmps203;go_wp2_with fail;have B2:Blk (((w.alloc (.cells #[.slice A a.length c] 24)).alloc (.cells #[.slice A2 b.length c2] 24)).alloc (.cells #[.slice none 0 0] 24)) (w.heap.size+1+1) 24 [.slice none 0 0]:=(Blk.made _ 24 _ _ _ (by simp) rfl);have BB:Below w.heap.size w (((w.alloc (.cells #[.slice A a.length c] 24)).alloc (.cells #[.slice A2 b.length c2] 24)).alloc (.cells #[.slice none 0 0] 24)):=(((Below.refl _ _).alloc ql _).alloc (by simp) _).alloc (by simp;omega) _;refine (nat_Cmp _ _ _ a b (HX.o.below BB ql) (HY.o.below BB ql) (by omega) (by omega)).mono ?_;rintro e w1 ⟨rfl,hb1⟩;rw [Hcc.o];replace B2:=B2.below hb1 B2.lt;replace BB:=BB.trans (hb1.mono BB.size);obtain ⟨c2,hf2⟩:=B2.cf1;have HBB:=qh BB;clear hb1 BB B2
 go_wp2
 refine bodyPost_ret (v:=.tuple #[.agg #[.slice none 0 0],.bool false]) (by simp [results,Tryz.results203,go_sem,c2];try rfl) rfl ?_;exact ⟨rfl,HBB.o.setCell (by simp;omega) _⟩
theorem u64_or32 (x y:Nat) (hx:x<4294967296) (hy:y<4294967296):Go.bits .or .u64 ((x:Int) * 4294967296) (y:Int)=((x * 4294967296+y:Nat):Int):=by
 have hw:∀ n:Int,0≤n→n<2 ^ 64→IntKind.u64.wrap n=n:=fun n h0 h1=>by simp [IntKind.wrap,IntKind.bits,IntKind.signed];omega
 rw [bits_join .u64 64 (by decide) hw 32 ((x:Int) * 4294967296) (y:Int) (by omega) (by omega) (by omega) (by omega) (by omega) (by omega)];omega
theorem nat_small (w:World) (v:Value) (l:List Nat) (d:Nat) (h:RL w v l) (hl:l.length≤100000000) (hd0:0<d) (hd:d<4294967296) :
  Calls Tryz.prog 133 #[v,.int .u32 d] w fun e w'=>∃ v' out,e=.returned (.tuple #[v',.int .u32 (val l % d:Nat)])∧RL w' v' out∧val out=val l / d∧out.length=l.length∧Below w.heap.size w w':=by
 obtain ⟨i0,hi,hz0,hz1,hz2⟩:=info_parts Tryz_info43;have HX:=qh h;obtain ⟨A,c,rfl,hc,hcell⟩:=h.form;generalize hn:l.length=n at *
 have Hn:=qh hn;clear h hn;go_enter Tryz.func133,Tryz.ntmps133;go_wp2_with (at_make;go_loud (refine wpList_make_blk _ rfl (.tmp 10) (.tmp 10) 22 rfl 43 i0 (.int .u32 0) Tryz.underlying22 hi hz0 hz1 rfl .i64 .i64 _ _ n rfl rfl rfl rfl (by rw [hz2];omega) (by unfold maxLen;omega) ?_))
 go_wp2_with fail
 go_loopw [7,8] (fun s7 s8 wr=>∃ (k rest:Nat) (suf:List Nat),s8=.int .i64 ((k:Int) - 1)∧s7=.int .u64 rest∧k≤n∧rest<d∧suf.length=n - k∧Wd suf ∧
   val suf=val (l.drop k) / d∧rest=val (l.drop k) % d ∧
   Blk wr w.heap.size 43 (U32 (List.replicate k 0 ++ suf))∧Below w.heap.size w wr) (fun _ i _=>(intOf i+1).toNat)
 case atStart =>
  refine ⟨n,0,[],by go_num,rfl,by omega,hd0,by simp,Wd.nil,by simp [val,← Hn.o],by simp [val,← Hn.o],?_,(Below.refl _ _).alloc ql _⟩;exact Blk.made _ 43 _ _ _ rfl (by simp [U32])
 case round =>
  obtain ⟨k,rest,suf,rfl,rfl,hk,hrd,hsl,hsw,hv1,hv2,B3,hbw⟩:=hrel;have Hsl:=qh hsl;clear hsl;by_cases hk0:0<k
  ·obtain ⟨m,rfl⟩:∃ m,k=m+1:=⟨k - 1,by omega⟩;rw [show (((m+1:Nat):Int) - 1)=(m:Int) by omega];obtain ⟨b,o,rfl,hx,hlt,hxb⟩:=hcell m (by omega);rw [← hbw.cell (p:=⟨b,o+m,none⟩) hlt] at hx;obtain ⟨hq,hr1,hr2⟩:=small_round (k:=m) hd0 hd hrd (by rw [Hn.o];omega) hxb hv1 hv2;have hor:=u64_or32 rest (l.getD m 0) (by omega) hxb;have hmod:=Nat.mod_lt (rest * 4294967296+l.getD m 0) hd0;have hsum:rest * 4294967296+l.getD m 0<18446744073709551616:=by omega
   generalize l.getD m 0=x at *
   generalize hs:rest * 4294967296+x=s at *
   have Hr1:=qh hr1;have Hr2:=qh hr2;have Hs:=qh hs;have HB3:=qh B3;have HBw:=qh hbw;have hc3:=(B3.cell m).trans (U32_get _ m (by simp [Hsl.o];omega));have hf3:=B3.frozen m;obtain ⟨q,hqe⟩:∃ q,q=s / d:=⟨_,rfl⟩;obtain ⟨r,hre⟩:∃ r,r=s % d:=⟨_,rfl⟩;rw [← hqe] at hq;rw [← hre] at hmod;have hdv:(s:Int) / (d:Int)=(q:Int):=by rw [hqe,Int.natCast_ediv]
   have hmd:(s:Int) % (d:Int)=(r:Int):=by rw [hre,Int.natCast_emod]
   have Hqe:=qh hqe;have Hre:=qh hre;clear hr1 hr2 hs B3 hbw hcell hv1 hv2 hqe hre;go_wp2_with fail;refine ⟨⟨m,r,q :: suf,rfl,by rw [hmd],by omega,hmod,by rw [List.length_cons,Hsl.o];omega,fun z hz=>by rcases List.mem_cons.1 hz with rfl|hz;exact hq;exact hsw z hz,by rw [Hqe.o,← Hr1.o],by rw [Hre.o,Hr2.o],?_,?_⟩,by simp [intOf]⟩
   ·have h:=HB3.o.put m (.int .u32 (q:Int));rw [U32_set,List.replicate_succ',List.append_assoc,List.singleton_append,set_mid _ _ _ _ _ (by simp),List.append_assoc,List.singleton_append] at h;exact h
   ·exact HBw.o.setCell (by simp) _
  ·obtain rfl:k=0:=by omega
   rw [List.replicate_zero,List.nil_append] at B3;rw [List.drop_zero] at hv1 hv2;have Hv1:=qh hv1;have Hv2:=qh hv2;have HRL:=qh (RL_blk B3 hsw n (by rw [Hsl.o];omega));have HBw:=qh hbw;have hr':(rest:Int)<4294967296:=by omega
   clear B3 hbw hcell hv1 hv2
   go_wp2
   go_ret2
   refine ⟨_,suf,?_,HRL.o,Hv1.o,by rw [Hsl.o];omega,HBw.o⟩;rw [← Hv2.o]
   rfl
theorem u64_orshift (q x m:Nat) (hm:m<32) (hq:q<2 ^ m) (hx:x<4294967296):Go.bits .or .u64 (q:Int) (IntKind.u64.wrap ((x:Int) * 2 ^ m))=((q+x * 2 ^ m:Nat):Int)∧q+x * 2 ^ m<18446744073709551616:=by
 have hw:∀ n:Int,0≤n→n<2 ^ 64→IntKind.u64.wrap n=n:=fun n h0 h1=>by simp [IntKind.wrap,IntKind.bits,IntKind.signed];omega
 have hp:2 ^ m≤2147483648:=Nat.pow_le_pow_right (n:=2) (j:=31) (by omega) (by omega);have h1:x * 2 ^ m≤4294967295 * 2147483648:=Nat.mul_le_mul (by omega) hp;have e:(x:Int) * 2 ^ m=((x * 2 ^ m:Nat):Int):=by simp
 have h2:q+x * 2 ^ m<18446744073709551616:=by omega
 have hc:Go.bits .or .u64 (q:Int) ((x * 2 ^ m:Nat):Int)=Go.bits .or .u64 ((x * 2 ^ m:Nat):Int) (q:Int):=by
  rw [Go.u64_or_nat _ _ (by omega) (by omega),Go.u64_or_nat _ _ (by omega) (by omega),Nat.or_comm]
 refine ⟨?_,h2⟩;rw [e,hw _ (by omega) (by omega),hc]
 have hm2:((x * 2 ^ m:Nat):Int) % 2 ^ m=0:=by
  rw [← e];simp
 have hq2:(q:Int)<2 ^ m:=by exact_mod_cast hq
 rw [bits_join .u64 64 (by decide) hw m _ _ (by omega) hm2 (by omega) (by omega) hq2 (by omega)];omega
theorem nat_shift (w:World) (v:Value) (l:List Nat) (m:Nat) (h:RL w v l) (hl:l.length≤100000000) (hm:m<32) :
  Calls Tryz.prog 135 #[v,.int .i64 m] w fun e w'=>∃ g out,e=.returned (.slice (some ⟨g,0,none⟩) (l.length+1) (l.length+1))∧w.heap.size≤g∧Blk w' g 43 (U32 out)∧Wd out∧val out=val l * 2 ^ m∧out.length=l.length+1∧Below w.heap.size w w':=by
 obtain ⟨i0,hi,hz0,hz1,hz2⟩:=info_parts Tryz_info43;have HX:=qh h;obtain ⟨A,c,rfl,hc,hcell⟩:=h.form;generalize hn:l.length=n at *
 have Hn:=qh hn;clear h hn;go_enter Tryz.func135,Tryz.ntmps135;go_wp2_with (at_make;go_loud (refine wpList_make_blk _ rfl (.tmp 11) (.tmp 11) 22 rfl 43 i0 (.int .u32 0) Tryz.underlying22 hi hz0 hz1 rfl .i64 .i64 _ _ (n+1) rfl rfl (by simp) (by simp) (by rw [hz2];omega) (by unfold maxLen;omega) ?_))
 go_wp2_with fail
 go_loopw [6,15] (fun s6 s15 wr=>∃ (k q:Nat) (done:List Nat),s15=.int .i64 k∧s6=.int .u64 q∧k≤n∧q<2 ^ m∧done.length=k∧Wd done ∧
   val done+q * 4294967296 ^ k=val (l.take k) * 2 ^ m ∧
   Blk wr w.heap.size 43 (U32 (done ++ List.replicate (n+1 - k) 0))∧Below w.heap.size w wr) (fun _ i _=>n - (intOf i).toNat)
 case atStart =>
  refine ⟨0,0,[],rfl,rfl,by omega,Nat.pow_pos (by omega),rfl,Wd.nil,by simp [val],?_,(Below.refl _ _).alloc ql _⟩;exact Blk.made _ 43 _ _ _ rfl (by simp [U32])
 case round =>
  obtain ⟨k,q,done,rfl,rfl,hk,hq,hdl,hdw,hv,B3,hbw⟩:=hrel;have Hdl:=qh hdl;have Hv:=qh hv;have hp:2 ^ m≤2147483648:=Nat.pow_le_pow_right (n:=2) (j:=31) (by omega) (by omega);clear hdl hv;by_cases hkn:k<n
  ·obtain ⟨b,o,rfl,hx,hlt,hxb⟩:=hcell k hkn;rw [← hbw.cell (p:=⟨b,o+k,none⟩) hlt] at hx;have hr:=shift_round Hdl.o hq hxb Hv.o;have hR:=rep_pos (n+1 - k) (by omega);rw [hR] at B3;have hc3:=(B3.cell k).trans (U32_get _ k (by simp [Hdl.o]));have hf3:=B3.frozen k;obtain ⟨hor,hs8⟩:=u64_orshift q (l.getD k 0) m hm hq hxb;have HB3:=qh B3;have HBw:=qh hbw;generalize l.getD k 0=x at *
   generalize hs:q+x * 2 ^ m=s at *
   have Hr:=qh hr;clear hr hR B3 hbw hcell hs;go_wp2_with fail;refine ⟨⟨k+1,s / 4294967296,done ++ [s % 4294967296],by go_num,by go_num,by omega,Hr.o.2,by rw [List.length_append,Hdl.o];rfl,hdw.append (Wd.one (by omega)),Hr.o.1,?_,?_⟩,by simp [intOf];omega⟩
   ·have h:=HB3.o.put k (.int .u32 ((s % 4294967296:Nat):Int));rw [U32_set,set_mid _ _ _ _ _ Hdl.o,show n+1 - k - 1=n+1 - (k+1) by omega,Int.natCast_emod] at h;exact h
   ·exact HBw.o.setCell (by simp) _
  ·obtain rfl:k=n:=by omega
   have hv:=Hv.o;rw [show k+1 - k=1 by omega] at B3;have hc3:=(B3.cell k).trans (U32_get _ k (by simp [Hdl.o]));have hf3:=B3.frozen k;have HB3:=qh B3;have HBw:=qh hbw;rw [List.take_of_length_le (by rw [Hn.o];omega)] at hv;have Hv:=qh hv;have hq8:q<4294967296:=by omega
   clear B3 hbw hcell hv
   go_wp2
   go_ret
   refine ⟨w.heap.size,done ++ [q],rfl,ql,?_,hdw.append (Wd.one (by omega)),?_,by rw [List.length_append,Hdl.o];rfl,HBw.o.setCell (by simp) _⟩
   ·have h:=HB3.o.put k (.int .u32 (q:Int));rw [U32_set,List.replicate_one,set_mid _ _ _ _ _ Hdl.o,List.append_nil] at h;exact h
   ·rw [val_snoc,Hdl.o,Nat.mul_comm];rw [← Hv.o]
theorem nat_back (w:World) (v:Value) (l:List Nat) (m:Nat) (h:RL w v l) (hl:l.length≤100000000) (hm:m<32) :
  Calls Tryz.prog 137 #[v,.int .i64 m] w fun e w'=>∃ v' out,e=.returned v'∧RL w' v' out∧val out=val l / 2 ^ m∧out.length=l.length∧Below w.heap.size w w':=by
 obtain ⟨i0,hi,hz0,hz1,hz2⟩:=info_parts Tryz_info43;have HX:=qh h;obtain ⟨A,c,rfl,hc,hcell⟩:=h.form;generalize hn:l.length=n at *
 have Hn:=qh hn;clear h hn;go_enter Tryz.func137,Tryz.ntmps137;go_wp2_with (at_make;go_loud (refine wpList_make_blk _ rfl (.tmp 8) (.tmp 8) 22 rfl 43 i0 (.int .u32 0) Tryz.underlying22 hi hz0 hz1 rfl .i64 .i64 _ _ n rfl rfl rfl rfl (by rw [hz2];omega) (by unfold maxLen;omega) ?_))
 go_wp2_with fail
 go_loopw [12] (fun s12 wr=>∃ (k:Nat) (done:List Nat),s12=.int .i64 k∧k≤n∧done.length=k∧Wd done ∧
   val done=val l / 2 ^ m % 4294967296 ^ k ∧
   Blk wr w.heap.size 43 (U32 (done ++ List.replicate (n - k) 0))∧Below w.heap.size w wr) (fun i _=>n - (intOf i).toNat)
 case atStart =>
  refine ⟨0,[],rfl,by omega,rfl,Wd.nil,by simp [val,Nat.mod_one],?_,(Below.refl _ _).alloc ql _⟩;exact Blk.made _ 43 _ _ _ rfl (by simp [U32])
 case round =>
  obtain ⟨k,done,rfl,hk,hdl,hdw,hv,B3,hbw⟩:=hrel;have Hdl:=qh hdl;have Hv:=qh hv;clear hdl hv;by_cases hkn:k<n
  ·have hr:=back_round Hdl.o Hv.o;have hR:=rep_pos (n - k) (by omega);rw [hR] at B3;have hc3:=(B3.cell k).trans (U32_get _ k (by simp [Hdl.o]));have hf3:=B3.frozen k;have hxa:=HX.o.2.getD (k+1);have hxb:=HX.o.2.getD k;have HX':Hid (RL wr _ l):=HX.o.below hbw ql;obtain ⟨x,hx⟩:∃ x,x=l.getD (k+1) 0:=⟨_,rfl⟩;obtain ⟨y,hy⟩:∃ x,x=l.getD k 0:=⟨_,rfl⟩;have hdig:=back_word (val l) k m (by omega);rw [← getD_val l HX.o.2,← getD_val l HX.o.2,← hx,← hy] at hdig;rw [← hdig] at hr;rw [← hx] at hxa;rw [← hy] at hxb;have hor:=u64_or32 x y hxa hxb;have hs8:x * 4294967296+y<18446744073709551616:=by omega
   generalize hs:x * 4294967296+y=s at *
   obtain ⟨t,ht⟩:∃ t,t=s / 2 ^ m:=⟨_,rfl⟩;rw [← ht] at hr;have hdv:(s:Int) / 2 ^ m=(t:Int):=by rw [ht,Int.natCast_ediv];simp
   have ht8:t<18446744073709551616:=by rw [ht];exact Nat.lt_of_le_of_lt (Nat.div_le_self _ _) hs8
   have Hr:=qh hr;have Hx:=qh hx;have Hy:=qh hy;have HB3:=qh B3;have HBw:=qh hbw
   have CA:Hid (∀ W,RL W (.slice A n c) l→Calls Tryz.prog 198 #[.slice A n c,.int .i64 ((k:Int)+1)] W fun e w'=>e=.returned (.int .u64 x)∧W=w'):=fun W hW=>by
    have h:=nat_at _ _ l (k+1) hW (by rw [Hn.o];omega) (by omega);rw [← Hx.o] at h;exact h
   have CB:Hid (∀ W,RL W (.slice A n c) l→Calls Tryz.prog 198 #[.slice A n c,.int .i64 k] W fun e w'=>e=.returned (.int .u64 y)∧W=w'):=fun W hW=>by
    have h:=nat_at _ _ l k hW (by rw [Hn.o];omega) (by omega);rw [← Hy.o] at h;exact h
   clear hr hR B3 hbw hcell hs ht hx hy hdig;go_wp2_with (first|((with_reducible refine (CA.o _ HX'.o).mono ?_);rintro e w' ⟨rfl,rfl⟩)|((with_reducible refine (CB.o _ HX'.o).mono ?_);rintro e w' ⟨rfl,rfl⟩))
   refine ⟨⟨k+1,done ++ [t % 4294967296],by go_num,by omega,by rw [List.length_append,Hdl.o];rfl,hdw.append (Wd.one (by omega)),Hr.o,?_,?_⟩,by simp [intOf];omega⟩
   ·have h:=HB3.o.put k (.int .u32 ((t % 4294967296:Nat):Int));rw [U32_set,set_mid _ _ _ _ _ Hdl.o,show n - k - 1=n - (k+1) by omega,Int.natCast_emod] at h;exact h
   ·exact HBw.o.setCell (by simp) _
  ·obtain rfl:k=n:=by omega
   rw [Nat.sub_self,List.replicate_zero,List.append_nil] at B3;have HRL:=qh (RL_blk B3 hdw k Hdl.o.symm);have HBw:=qh hbw
   have he:val l / 2 ^ m % 4294967296 ^ k=val l / 2 ^ m:=by
    have h1:=val_lt l HX.o.2;rw [Hn.o] at h1;exact Nat.mod_eq_of_lt (Nat.lt_of_le_of_lt (Nat.div_le_self _ _) h1)
   have He:=qh he;clear B3 hbw hcell he
   go_wp2
   go_ret
   exact ⟨_,done,rfl,HRL.o,by rw [Hv.o,He.o],Hdl.o,HBw.o⟩
theorem nat_Mul (w:World) (x y:Value) (a b:List Nat) (hx:RL w x a) (hy:RL w y b) (ha:a.length≤100000000) (hb:b.length≤100000000) :
  Calls Tryz.prog 149 #[.agg #[x],.agg #[y]] w fun e w'=>∃ v,e=.returned (.agg #[v])∧RN w' v (val a * val b)∧Below w.heap.size w w':=by
 obtain ⟨i0,hi,hz0,hz1,hz2⟩:=info_parts Tryz_info43;have HX:=qh hx;have HY:=qh hy;obtain ⟨A,c,rfl,hc,hcellA⟩:=hx.form;obtain ⟨A2,c2,rfl,hc2,hcellB⟩:=hy.form;generalize hla:a.length=la at *
 generalize hlb:b.length=lb at *
 have Hla:=qh hla;have Hlb:=qh hlb;clear hx hy hla hlb;go_enter Tryz.func149,Tryz.ntmps149;go_wp2_with (at_make;go_loud (refine wpList_make_blk _ rfl (.tmp 17) (.tmp 17) 22 rfl 43 i0 (.int .u32 0) Tryz.underlying22 hi hz0 hz1 rfl .i64 .i64 _ _ (la+lb) rfl rfl (by simp) (by simp) (by rw [hz2];omega) (by unfold maxLen;omega) ?_))
 go_wp2_with fail
 go_loopw [22] (fun s22 wr=>∃ (i:Nat) (D:List Nat),s22=.int .i64 i∧i≤la∧D.length=i+lb∧Wd D∧val D=val (a.take i) * val b ∧
   Blk wr w.heap.size 24 [.slice A la c]∧Blk wr (w.heap.size+1) 24 [.slice A2 lb c2]∧Blk wr (w.heap.size+1+1) 24 [.slice none 0 0] ∧
   Blk wr (w.heap.size+1+1+1) 43 (U32 (D ++ List.replicate (la - i) 0))∧Below w.heap.size w wr) (fun i _=>la - (intOf i).toNat)
 case atStart =>
  refine ⟨0,List.replicate lb 0,rfl,by omega,by simp,Wd.rep _,by simp [val_rep,val],(((Blk.made w 24 _ _ _ rfl rfl).alloc _).alloc _).alloc _,((Blk.made _ 24 _ _ _ (by simp) rfl).alloc _).alloc _,(Blk.made _ 24 _ _ _ (by simp) rfl).alloc _,?_,?_⟩
  ·refine Blk.made _ 43 _ _ _ (by simp) ?_;simp [U32,Nat.add_comm]
  ·exact ((((Below.refl _ _).alloc ql _).alloc (by simp) _).alloc (by simp;omega) _).alloc (by simp;omega) _
 case round =>
  obtain ⟨i,D,rfl,hi2,hDl,hDw,hDv,B0,B1,B2,B3,hbw⟩:=hrel;obtain ⟨wo,rfl⟩:∃ wo:World,wo=wr:=⟨_,rfl⟩;have HDl:=qh hDl;have HDv:=qh hDv;have HB0:=qh B0;have HB1:=qh B1;have HB2:=qh B2;have HB3:=qh B3;have HBw:=qh hbw;have c0:=B0.c1;have c1:=B1.c1;clear hDl hDv B0 B1 B2 B3 hbw;by_cases hin:i<la
  ·obtain ⟨bA,oA,rfl,hxA,hltA,hxbA⟩:=hcellA i hin;rw [← HBw.o.cell (p:=⟨bA,oA+i,none⟩) hltA] at hxA;obtain ⟨x,hx⟩:∃ x,x=a.getD i 0:=⟨_,rfl⟩;rw [← hx] at hxA hxbA;have Hx:=qh hx;clear hx;have hin':(i:Int)<(la:Int):=by omega
   go_wp2_with fail
   go_loopw [8,30] (fun s8 s30 wr=>∃ (j q:Nat) (P:List Nat),s30=.int .i64 j∧s8=.int .u64 q∧j≤lb∧q<4294967296∧P.length=i+j∧Wd P ∧
     val P+q * 4294967296 ^ (i+j)=val (D.take (i+j))+x * 4294967296 ^ i * val (b.take j) ∧
     Blk wr w.heap.size 24 [.slice (some ⟨bA,oA,none⟩) la c]∧Blk wr (w.heap.size+1) 24 [.slice A2 lb c2]∧Blk wr (w.heap.size+1+1) 24 [.slice none 0 0] ∧
     Blk wr (w.heap.size+1+1+1) 43 (U32 (P ++ (D.drop (i+j) ++ List.replicate (la - i) 0)))∧Below w.heap.size w wr) (fun _ j _=>lb - (intOf j).toNat)
   case atStart =>
    refine ⟨0,0,D.take i,rfl,rfl,by omega,by omega,?_,hDw.take i,by simp [val],HB0.o,HB1.o,HB2.o,?_,HBw.o⟩
    ·rw [List.length_take,HDl.o];omega
    ·rw [← List.append_assoc,Nat.add_zero i,List.take_append_drop];exact HB3.o
   case round =>
    obtain ⟨j,q,P,rfl,rfl,hj,hq,hPl,hPw,hPv,B0,B1,B2,B3,hbw⟩:=hrel;have HPl:=qh hPl;have HPv:=qh hPv;have c0:=B0.c1;have c1:=B1.c1;clear hPl hPv HB0 HB1 HB2 HB3 HBw;by_cases hjn:j<lb
    ·obtain ⟨bB,oB,rfl,hxB,hltB,hxbB⟩:=hcellB j hjn;rw [← hbw.cell (p:=⟨bB,oB+j,none⟩) hltB] at hxB;have hdr:=drop_cons_getD D (i+j) (by rw [HDl.o];omega);have hDo:=hDw.getD (i+j);rw [hdr,List.cons_append] at B3;have hr:=mul_round HPl.o hq hxbA hxbB hDo HPv.o;obtain ⟨hs8,hs9⟩:=mul_small hxbA hxbB hDo hq;have hc3:=(B3.cell (i+j)).trans (U32_get _ (i+j) (by simp [HPl.o]));rw [getD_mid _ _ _ _ HPl.o] at hc3;have hf3:=B3.frozen (i+j);generalize D.getD (i+j) 0=o at *
     obtain ⟨y,hy⟩:∃ y,y=b.getD j 0:=⟨_,rfl⟩;rw [← hy] at hxB hxbB hr hs8 hs9;obtain ⟨p,hp⟩:∃ p,p=x * y:=⟨_,rfl⟩;rw [← hp] at hr hs8 hs9
     have hmul:IntKind.u64.wrap ((x:Int) * (y:Int))=(p:Int):=by
      have e:(x:Int) * (y:Int)=(p:Int):=by rw [hp];simp
      rw [e];exact IntWalk.u64_in _ ⟨by omega,by omega⟩
     have Hr:=qh hr;have HB0:=qh B0;have HB1:=qh B1;have HB2:=qh B2;have HB3:=qh B3;have HBw:=qh hbw;have hjn':(j:Int)<(lb:Int):=by omega
     clear hr hdr hy hp B0 B1 B2 B3 hbw hcellA hcellB;go_wp2_with fail;refine ⟨⟨j+1,(q+(p+o)) / 4294967296,P ++ [(q+(p+o)) % 4294967296],by go_num,by go_num,by omega,hs9,by rw [List.length_append,HPl.o];rfl,hPw.append (Wd.one (by omega)),Hr.o,?_,?_,?_,?_,?_⟩,by simp [intOf];omega⟩
     ·exact (HB0.o.far _ _ (by simp;try omega))
     ·exact (HB1.o.far _ _ (by simp;try omega))
     ·exact (HB2.o.far _ _ (by simp;try omega))
     ·have h:=HB3.o.put (i+j) (.int .u32 (((q+(p+o)) % 4294967296:Nat):Int));rw [U32_set,set_mid _ _ _ _ _ HPl.o] at h;have e:((((q+(p+o)) % 4294967296:Nat)):Int)=((q:Int)+((p:Int)+o)) % 4294967296:=by omega
      rw [e] at h;exact h
     ·exact HBw.o.setCell (by simp;try omega) _
    ·obtain rfl:j=lb:=by omega
     have hdd:D.drop (i+j)=[]:=List.drop_of_length_le (by rw [HDl.o];omega);have hR:=rep_pos (la - i) (by omega);rw [hdd,List.nil_append,hR] at B3;have hc3:=(B3.cell (i+j)).trans (U32_get _ (i+j) (by simp [HPl.o]));have hf3:=B3.frozen (i+j)
     have hv':val (P ++ [q])=val (a.take (i+1)) * val b:=by
      have h:=HPv.o;rw [List.take_of_length_le (by rw [HDl.o];omega),List.take_of_length_le (by rw [Hlb.o];omega),HDv.o] at h;rw [val_snoc,HPl.o,val_take_succ,← Hx.o,Nat.add_mul,Nat.mul_comm _ q,h,Nat.mul_comm x]
     have Hv':=qh hv';have HB0:=qh B0;have HB1:=qh B1;have HB2:=qh B2;have HB3:=qh B3;have HBw:=qh hbw;clear hv' hR hdd B0 B1 B2 B3 hbw hcellA hcellB;go_wp2_with fail;refine ⟨⟨i+1,P ++ [q],by go_num,by omega,by rw [List.length_append,HPl.o];simp;omega,hPw.append (Wd.one hq),Hv'.o,?_,?_,?_,?_,?_⟩,by simp [intOf];omega⟩
     ·exact (HB0.o.far _ _ (by simp;try omega))
     ·exact (HB1.o.far _ _ (by simp;try omega))
     ·exact (HB2.o.far _ _ (by simp;try omega))
     ·have h:=HB3.o.put (i+j) (.int .u32 (q:Int));rw [U32_set,set_mid _ _ _ _ _ HPl.o,show la - i - 1=la - (i+1) by omega] at h;exact h
     ·exact HBw.o.setCell (by simp;try omega) _
  ·obtain rfl:i=la:=by omega
   have hb3:=HB3.o;rw [Nat.sub_self,List.replicate_zero,List.append_nil] at hb3;have HRL:Hid (RL wo (.slice (some ⟨w.heap.size+1+1+1,0,none⟩) (i+lb) (i+lb)) D):=RL_blk hb3 hDw (i+lb) HDl.o.symm;have hv':val D=val a * val b:=by rw [HDv.o,List.take_of_length_le (by rw [Hla.o];omega)]
   have HE:=qh hv';obtain ⟨c2,hf2⟩:=HB2.o.cf1;clear hb3 hv' c0 c1 hcellA hcellB;go_wp2_with ((go_at_call 63;refine (nat_trim _ _ D HRL.o (by rw [HDl.o];omega)).mono ?_;rintro e w' ⟨v',rfl,hr',hb'⟩;have HR':=qh hr';obtain ⟨A',cc',rfl,-⟩:=hr'.form;have hB2':=HB2.o.below hb' HB2.o.lt;have hc2':=hB2'.cell 0;have hf2':=hB2'.frozen 0;simp only [M2] at hc2';have HB2':=qh hB2';have Hb':=qh hb';clear hr' hB2' hb'))
   refine bodyPost_ret (v:=.agg #[.slice A' _ cc']) (by simp [results,Tryz.results149,go_sem,hc2'];try rfl) rfl ?_;refine ⟨_,rfl,?_,?_⟩
   ·rw [← HE.o];exact HR'.o.far HB2'.o (by simp) _ _
   ·exact (HBw.o.trans (Hb'.o.mono HBw.o.size)).setCell (by simp;omega) _
end Go.Proofs.YtdgleeglndcjhaaGreatDoor
namespace Go.Proofs.YtdgleeglndcjhaaGreatDoor
theorem addback_end {done u':List Nat} {n c z W V q R:Nat} (hk:done.length=n) (hd:Wd done) (hul:u'.length=n+1) (hz:z=u'.getD n 0) (hzB:z<4294967296) (hc:c≤1)
  (h:val done+c * 4294967296 ^ n=val (u'.take n)+V) (h1:val u'+q * V=W+1 * 4294967296 ^ (n+1)) (h2:R+q * V=W+V) (hR:R<4294967296 ^ n):(z+c) % 4294967296=0∧val (done ++ [0])=R:=by
 have h0:val u'=val (u'.take n)+4294967296 ^ n * z:=by
  have:=val_take_succ u' n
  rwa [List.take_of_length_le (by omega),← hz] at this
 have h3:=val_lt done hd;rw [hk] at h3;rw [Nat.pow_succ] at h1;generalize 4294967296 ^ n=P at *
 have h4:val done+P * (z+c)=R+P * 4294967296:=by
  rw [Nat.mul_add,Nat.mul_comm P c];omega
 have h5:z+c=4294967296:=by
  rcases Nat.lt_or_ge (z+c) 4294967296 with h6|h6
  ·exfalso;have:P * (z+c+1)≤P * 4294967296:=Nat.mul_le_mul_left _ h6;rw [Nat.mul_add,Nat.mul_one] at this;omega
  ·omega
 rw [h5] at h4;exact ⟨by omega,by rw [val_snoc];omega⟩
theorem div_round {U0 U suf:List Nat} {j V R:Nat} (hV:0<V) (hj:j<U0.length) (hUj:U.getD j 0=U0.getD j 0) (hUl:U.length=U0.length)
  (hR:val (U.drop (j+1))=R) (hRV:R<V) (hB:U.getD j 0<4294967296) (hs:val suf * V+R=val (U0.drop (j+1))) :
  val (U.drop j)<V * 4294967296∧val (val (U.drop j) / V :: suf) * V+val (U.drop j) % V=val (U0.drop j)∧val (U.drop j) / V<4294967296:=by
 rw [drop_cons_getD U j (by omega),drop_cons_getD U0 j hj,hUj];rw [hUj] at hB;simp only [val];rw [hR];generalize U0.getD j 0=x at *
 have h1:x+4294967296 * R<V * 4294967296:=by
  have:(R+1) * 4294967296≤V * 4294967296:=Nat.mul_le_mul_right _ hRV;omega
 refine ⟨h1,?_,?_⟩
 ·rw [← hs,Nat.add_mul,Nat.mul_add];have:=Nat.div_add_mod (x+4294967296 * R) V;rw [Nat.mul_assoc 4294967296,Nat.mul_comm ((x+4294967296 * R) / V) V];omega
 ·rw [Nat.div_lt_iff_lt_mul hV];omega
theorem val_split (l:List Nat) (n:Nat) (h:val l<4294967296 ^ n) (hl:Wd l):val (l.take n)=val l∧∀ k,n≤k→l.getD k 0=0:=by
 constructor
 ·rcases Nat.lt_or_ge l.length n with h1|h1
  ·rw [List.take_of_length_le (by omega)]
  ·have h2:=val_take_drop l n h1;rcases Nat.eq_zero_or_pos (val (l.drop n)) with h3|h3
   ·rw [h3] at h2;omega
   ·have:4294967296 ^ n≤4294967296 ^ n * val (l.drop n):=Nat.le_mul_of_pos_right _ h3;omega
 ·intro k hk;rw [getD_val l hl,Nat.div_eq_of_lt (Nat.lt_of_lt_of_le h (Nat.pow_le_pow_right (by omega) hk))]
theorem div_first {U:List Nat} {X Y p n m:Nat} (hU:val U=X * p) (hUd:Wd U) (hml:m+1≤U.length) (hX:X<4294967296 ^ (m+n)) (hY:4294967296 ^ (n - 1)≤Y) (hn:1≤n) (hp:0<p):val (U.drop (m+1))<Y * p:=by
 have h1:=val_take_drop U (m+1) hml;rw [hU] at h1;obtain ⟨n',rfl⟩:∃ n',n=n'+1:=⟨n - 1,by omega⟩;rw [Nat.add_sub_cancel] at hY;have h2:X * p<4294967296 ^ (m+(n'+1)) * p:=Nat.mul_lt_mul_of_pos_right hX hp;have h3:4294967296 ^ (m+(n'+1)) * p=4294967296 ^ (m+1) * (4294967296 ^ n' * p):=by rw [← Nat.mul_assoc,← Nat.pow_add];congr 2;omega
 have h4:4294967296 ^ (m+1) * val (U.drop (m+1))<4294967296 ^ (m+1) * (4294967296 ^ n' * p):=by omega
 exact Nat.lt_of_lt_of_le (Nat.lt_of_mul_lt_mul_left h4) (Nat.mul_le_mul_right _ hY)
theorem div_last {X Y p Q R:Nat} (hp:0<p) (hY:0<Y) (h:Q * (Y * p)+R=X * p) (hR:R<Y * p):Q=X / Y∧R / p=X % Y:=by
 have h1:X * p / (Y * p)=Q:=by
  rw [← h,Nat.mul_comm Q,Nat.mul_add_div (Nat.mul_pos hY hp),Nat.div_eq_of_lt hR,Nat.add_zero]
 have h2:X * p % (Y * p)=R:=by rw [← h,Nat.mul_comm Q,Nat.mul_add_mod,Nat.mod_eq_of_lt hR]
 rw [Nat.mul_div_mul_right _ _ hp] at h1;rw [Nat.mul_mod_mul_right] at h2;exact ⟨h1.symm,by rw [← h2,Nat.mul_div_cancel _ hp]⟩
theorem top_shift {x b:Nat} (h1:2 ^ (b - 1)≤x) (h2:x<2 ^ b) (hb:1≤b) (hb32:b≤32):2147483648≤x * 2 ^ (32 - b)∧x * 2 ^ (32 - b)<4294967296:=by
 have e1:2 ^ (b - 1) * 2 ^ (32 - b)=2147483648:=by rw [← Nat.pow_add,show b - 1+(32 - b)=31 by omega]
 have e2:2 ^ b * 2 ^ (32 - b)=4294967296:=by rw [← Nat.pow_add,show b+(32 - b)=32 by omega]
 have h3:2 ^ (b - 1) * 2 ^ (32 - b)≤x * 2 ^ (32 - b):=Nat.mul_le_mul_right _ h1;have h4:x * 2 ^ (32 - b)<2 ^ b * 2 ^ (32 - b):=Nat.mul_lt_mul_of_pos_right h2 (Nat.pow_pos (by omega));omega
theorem shifted_top {L:List Nat} {Y n s:Nat} (hL:Wd L) (hv:val L=Y * 2 ^ s) (hn:1≤n) (hY:Y<4294967296 ^ n) (h1:2147483648≤Y / 4294967296 ^ (n - 1) * 2 ^ s) (h2:(Y / 4294967296 ^ (n - 1)+1) * 2 ^ s≤4294967296) :
  val (L.take n)=Y * 2 ^ s∧2147483648≤L.getD (n - 1) 0:=by
 obtain ⟨k,rfl⟩:∃ k,n=k+1:=⟨n - 1,by omega⟩;rw [Nat.add_sub_cancel] at *
 have hp:0<2 ^ s:=Nat.pow_pos (by omega);have hP:0<4294967296 ^ k:=Nat.pow_pos (by omega)
 have h3:Y<(Y / 4294967296 ^ k+1) * 4294967296 ^ k:=by
  have:=Nat.div_add_mod Y (4294967296 ^ k);have h4:=Nat.mod_lt Y hP;rw [Nat.add_mul,Nat.one_mul,Nat.mul_comm];omega
 have h5:Y * 2 ^ s<4294967296 ^ (k+1):=by
  calc Y * 2 ^ s<(Y / 4294967296 ^ k+1) * 4294967296 ^ k * 2 ^ s:=Nat.mul_lt_mul_of_pos_right h3 hp
   _=(Y / 4294967296 ^ k+1) * 2 ^ s * 4294967296 ^ k:=by rw [Nat.mul_right_comm]
   _≤4294967296 * 4294967296 ^ k:=Nat.mul_le_mul_right _ h2
   _=4294967296 ^ (k+1):=by rw [Nat.pow_succ,Nat.mul_comm]
 refine ⟨by rw [(val_split L (k+1) (by rw [hv];exact h5) hL).1,hv],?_⟩;rw [getD_val L hL,hv,Nat.mod_eq_of_lt (by rw [Nat.div_lt_iff_lt_mul hP,← Nat.pow_succ'];exact h5)];refine Nat.le_trans h1 ?_;rw [Nat.le_div_iff_mul_le hP];have:=Nat.div_mul_le_self Y (4294967296 ^ k)
 calc Y / 4294967296 ^ k * 2 ^ s * 4294967296 ^ k=Y / 4294967296 ^ k * 4294967296 ^ k * 2 ^ s:=by rw [Nat.mul_right_comm]
  _≤Y * 2 ^ s:=Nat.mul_le_mul_right _ this
theorem length_mono {a b:Nat} (h:a≤b):(wordsOf a).length≤(wordsOf b).length :=
 (length_wordsOf a _).2 (Nat.lt_of_le_of_lt h ((length_wordsOf b _).1 (Nat.le_refl _)))
theorem length_val {l:List Nat} (h:Wd l):(wordsOf (val l)).length≤l.length:=(length_wordsOf _ _).2 (val_lt l h)
end Go.Proofs.YtdgleeglndcjhaaGreatDoor
