import Derived.Test.YtdgleeglndcjhaaGreatDoorX32
set_option linter.unusedSimpArgs false
set_option linter.unusedVariables false
set_option maxHeartbeats 8000000
set_option maxRecDepth 100000
namespace Go.Proofs.YtdgleeglndcjhaaGreatDoor
open Go.RowKit
theorem ownS_set {w:World} {B g cap n:Nat} {i:List Bs} {x y:Bs} (h:w.ownsRow B 9 1 (.slice (some ⟨g,0,none⟩) n cap) n (strs (i ++ [x]))) (hn:i.length+1=n):OwnS (w.setCell ⟨g,n - 1,none⟩ (.string ⟨y.toArray⟩)) B (.slice (some ⟨g,0,none⟩) n cap) (i ++ [y]):=by
 have hst:=(World.ownsRow.stored h (n - 1) (.string ⟨y.toArray⟩)).1
 have e:(strs (i ++ [x])).set (n - 1) (.string ⟨y.toArray⟩)=strs (i ++ [y]):=by
  rw [strs_app,strs_app,List.set_append_right _ _ (by rw [strs_len];omega),strs_len,show n - 1 - i.length=0 by omega];simp [strs]
 rw [e] at hst;unfold OwnS;rw [show (i ++ [y]).length=n by simp;omega];exact hst
theorem ref_parts (w:World) (s:Bs) (c:Nat) (hc:c<256) (hs:s.length≤100000) :
  Calls Tryz.prog 65 #[.string ⟨s.toArray⟩,.int .u8 (c:Int)] w fun e w'=>(∃ A n cap,e=.returned (.slice A n cap)∧StrsAre w' A n cap (splitG (UInt8.ofNat c) s))∧Below w.heap.size w w':=by
 obtain ⟨i9,hi9,hz90,hz91,hz92⟩:=info_parts Tryz_info9;have hmx:=maxLen_ge;have hlI:(s.length:Int)≤100000:=by omega
 go_enter Tryz.func65,Tryz.ntmps65;go_wp2_with fail;go_loopw [5,6] (fun v i wr=>∃ (k:Nat) (ws:List Bs),k≤s.length∧i=.int .i64 (k:Int)∧ws=splitG (UInt8.ofNat c) (s.take k)∧OwnS wr w.heap.size v ws∧Below w.heap.size w wr) (fun _ i _=>s.length - (intOf i).toNat)
 case atStart=>exact ⟨0,[[]],Nat.zero_le _,rfl,rfl,World.ownsRow_lit w #[.string ByteArray.empty] 1 ql (by decide) rfl,(Below.refl _ _).alloc ql _⟩
 case round =>
  obtain ⟨k,ws,hk,rfl,hws,ho,hb⟩:=hrel;obtain ⟨wo,rfl⟩:∃ wo:World,wo=wr:=⟨_,rfl⟩;have hwl:=splitG_length (UInt8.ofNat c) (s.take k);rw [← hws] at hwl;have htk:(s.take k).length≤k:=List.length_take_le _ _;have HO:=qh ho;have HB:=qh hb;have HWS:=qh hws;have hsz:=hb.size;have hne:ws≠[]:=by rw [hws];exact splitG_ne _ _
  have hml:∀ t ∈ ws,t.length≤100000:=by
   rw [hws];intro t ht;have:=splitG_mem_len (UInt8.ofNat c) (s.take k) t ht;omega
  have HML:=qh hml;have HNE:=qh hne;clear ho hb hws hne hml;by_cases hlt:k<s.length
  case neg =>
   have hI:¬ (k:Int)<(s.length:Int):=by omega
   have hfin:ws=splitG (UInt8.ofNat c) s:=by rw [HWS.o,List.take_of_length_le (by omega)]
   obtain ⟨A,n,cap,rfl,hst⟩:=HO.o.strs;have HST:=qh hst;have HF:=qh hfin;clear hst hfin;go_wp2_with fail;go_ret
   exact ⟨⟨A,n,cap,rfl,by rw [← HF.o];exact HST.o⟩,HB.o⟩
  have hI:(k:Int)<(s.length:Int):=by omega
  have hk0:(0:Int)≤(k:Int):=by omega
  obtain ⟨hkk,ex⟩:=ba_get s k s[k] (List.getElem?_eq_getElem hlt);obtain ⟨d,hd⟩:∃ d,s[k].toNat=d:=⟨_,rfl⟩;have ex':((⟨s.toArray⟩:ByteArray)[k]).toNat=d:=by rw [ex,hd]
  have hsk:s[k]=UInt8.ofNat d:=by rw [← hd];simp
  have hd256:d<256:=by rw [← hd];exact UInt8.toNat_lt _
  have hnx:s.take (k+1)=s.take k ++ [UInt8.ofNat d]:=by rw [List.take_add_one,List.getElem?_eq_getElem hlt,hsk];rfl
  have HNX:=qh hnx;have HSK:=qh hsk;clear ex hd hsk hnx;by_cases hdc:d=c
  ·have hdI:((d:Int) == (c:Int))=true:=by rw [hdc];simp
   have hfin:ws ++ [[]]=splitG (UInt8.ofNat c) (s.take (k+1)):=by rw [HNX.o,hdc,splitG_snoc_eq,HWS.o]
   have HF:=qh hfin;clear hfin hdc;go_wp2_with (at_builtin;refine wpList_append_lies _ (by rfl) _ _ 54 (by rfl) w.heap.size 9 i9 (.string ByteArray.empty) 1 16 Tryz.underlying54 hi9 hz90 hz91 hz92 rfl (by decide) u5 ws.length (strs ws) (by rfl) (World.ownsRow.alloc HO.o _) ⟨wo.heap.size,0,none⟩ 1 1 [.string ⟨([]:Bs).toArray⟩] (by rfl) rfl (cell_one_new _ _ _) (by simp [Value.oneCell']) (by omega) (by omega) (by omega) (by simp;omega) (wo.heap.size+1) (by simp) ?_;intro g' cap' w1 hown hgrow hat hlt';have HO7:=qh hown;have HG7:=qh hgrow;clear hown hgrow hat)
   go_roundw
   case rel=>exact ⟨k+1,ws ++ [[]],by omega,by go_num,HF.o,ownS_push HO7.o,below_grown (HB.o.alloc HB.o.size _) HG7.o (Nat.le_trans HB.o.size (by simp)) (fun j hj=>(World.ownsRow.lt HO.o j hj).1)⟩
   case measure=>simp [intOf];omega
  ·have hdI:((d:Int) == (c:Int))=false:=by rw [beq_eq_false_iff_ne];omega
   obtain ⟨i,x,e1,e2⟩:=splitG_snoc_ne (c:=UInt8.ofNat c) (x:=UInt8.ofNat d) (by intro e;have:=congrArg UInt8.toNat e;rw [byte_of d hd256,byte_of c hc] at this;exact hdc this) (s.take k);rw [← HWS.o] at e1;rw [← HNX.o] at e2;have HE2:=qh e2;subst e1;have hxl:x.length≤100000:=HML.o x (by simp)
   have hform:∃ g cap,u5=.slice (some ⟨g,0,none⟩) (i ++ [x]).length cap:=by
    rcases HO.o.2 with ⟨-,hn⟩|⟨g,cap,cur,hv,-⟩
    ·simp at hn
    ·exact ⟨g,cap,hv⟩
   obtain ⟨g,cap,hv⟩:=hform;subst hv;obtain ⟨n,hn⟩:∃ n,(i ++ [x]).length=n:=⟨_,rfl⟩;have hil:i.length=n - 1:=by rw [← hn];simp
   have hn0:0<n:=by rw [← hn];simp
   have ho:wo.ownsRow w.heap.size 9 1 (.slice (some ⟨g,0,none⟩) n cap) n (strs (i ++ [x])):=by
    have h:=HO.o;unfold OwnS at h;rw [hn] at h;exact h
   rw [hn] at hwl ⊢
   have hcell:wo.cell? ⟨g,n - 1,none⟩=some (.string ⟨x.toArray⟩):=by
    have h1:=World.ownsRow.cellAt ho (n - 1) (by omega);rw [h1,strs_app,List.getElem?_append_right (by rw [strs_len];omega),strs_len,show n - 1 - i.length=0 by omega];simp [strs]
   have hfrz:=World.ownsRow.frozenAt ho (n - 1);have HO2:=qh ho;have hgB:=(World.ownsRow.lt ho g rfl).1;have hm1:(n:Int) - 1=((n - 1:Nat):Int):=by omega
   obtain ⟨m,hm⟩:∃ m,n - 1=m:=⟨_,rfl⟩;rw [hm] at hm1 hcell hfrz;have hm0:(0:Int)≤(m:Int):=by omega
   have hmn:(m:Int)<(n:Int):=by omega
   have hk1:(k:Int)+1≤(s.length:Int):=by omega
   have HM:=qh hm
   have hcat:(⟨x.toArray⟩:ByteArray) ++ (⟨s.toArray⟩:ByteArray).extract k (k+1)=⟨(x ++ [UInt8.ofNat d]).toArray⟩:=by
    rw [ba_extract,ba_app,show k+1 - k=1 by omega,List.drop_eq_getElem_cons hlt,HSK.o]
    rfl
   have hset:=ownS_set (y:=x ++ [UInt8.ofNat d]) ho (by omega);rw [hm] at hset;have HSET:=qh hset;have HL2:Hid ((i ++ [x ++ [UInt8.ofNat d]]).length=n):=by show _=_;rw [← hn];simp
   clear hdc e2 ho hil hm hn hn0 hset;go_upto_region 7 with fail
   go_region
   go_wp2_with fail;go_roundw
   case rel=>exact ⟨k+1,i ++ [x ++ [UInt8.ofNat d]],by omega,by go_num,HE2.o.symm,own_kept_below HSET.o (Below.refl _ _).drew,(below_set HB.o g m hgB _).drew⟩
   case measure=>simp [intOf];omega
theorem ref_DWhole (w:World) (b:Bool) (A:Option Addr) (n c k S:Nat) (h:D4 w A n c k) (hl:(d4 k).length≤90000) (hS:S≤1000) :
  Calls Tryz.prog 164 #[.agg #[.bool b,.slice A n c,.int .i64 (S:Int)]] w fun e w'=>RetD4 e w' (k / 10 ^ S)∧Below w.heap.size w w':=by
 have HX:=qh h;have L1:=qh hl;have HP:Hid (10 ^ S≠0):=Nat.ne_of_gt (Nat.pow_pos (by decide));clear h hl;go_enter Tryz.func164,Tryz.ntmps164;go_upto_region 1 with fail;refine wp_letter (fun w1=>Blk w1 w.heap.size 68 [.bool b,.slice A n c,.int .i64 (S:Int)]∧Below w.heap.size w w1) ⟨(Blk.made _ 68 _ _ _ (by simp) rfl),((Below.refl _ _).alloc (by simp;try omega) _)⟩ ?_;rintro w1 ⟨b0,hb⟩;have HB:=qh hb;have K0:=qh b0;have hz:=b0.lt;clear hb b0;have HX1:=qh (HX.o.bel HB.o);have HKK:Hid (∀ w',Below w1.heap.size w1 w'→w'.cell? ⟨w.heap.size,0,none⟩=some (.bool b)∧w'.cell? ⟨w.heap.size,1,none⟩=some (.slice A n c)∧w'.cell? ⟨w.heap.size,2,none⟩=some (.int .i64 (S:Int))∧Below w1.heap.size w1 w'):=fun w' h=>⟨(K0.o.below h (by omega)).cell 0,(K0.o.below h (by omega)).cell 1,(K0.o.below h (by omega)).cell 2,h⟩
 go_region_held3 (fun w'=>w'.cell? ⟨w.heap.size,0,none⟩=some (.bool b)∧w'.cell? ⟨w.heap.size,1,none⟩=some (.slice A n c)∧w'.cell? ⟨w.heap.size,2,none⟩=some (.int .i64 (S:Int))∧Below w1.heap.size w1 w')
  (first|exact HKK.o _ (Below.refl _ _).drew|(go_split_ands;first|exact HKK.o _ (Below.trans ‹Below w1.heap.size w1 _› (hb2.mono (Below.size ‹Below w1.heap.size w1 _›)))|exact HKK.o _ (Below.trans ‹Below w1.heap.size w1 _› (hb3.mono (Below.size ‹Below w1.heap.size w1 _›)))))
  (first|((with_reducible refine (ref_Ten _ S (by omega)).mono ?_);rintro e w2 ⟨⟨A2,n2,c2,rfl,hr2⟩,hb2⟩)|((with_reducible refine (ref_Div _ A A2 n c n2 c2 k (10 ^ S) (HX1.o.below ?_ ql) hr2 L1.o (ten_len (by omega)) HP.o).mono ?_);(go_split_ands;assumption);rintro e w3 ⟨⟨A3,n3,c3,A4,n4,c4,rfl,hr3,hr4⟩,hb3⟩))
 have hbf:Below w1.heap.size w1 w3:=(by go_split_ands;assumption);go_wp2_with fail;go_ret
 exact ⟨⟨_,_,_,rfl,hr3⟩,HB.o.trans (hbf.mono HB.o.size)⟩
theorem ref_DRat (w:World) (b:Bool) (A:Option Addr) (n c k S:Nat) (h:D4 w A n c k) (hl:(d4 k).length≤90000) (hS:S≤1000) :
  Calls Tryz.prog 162 #[.agg #[.bool b,.slice A n c,.int .i64 (S:Int)]] w fun e w'=>RetL e w' (signed b k) (10 ^ S)∧Below w.heap.size w w':=by
 have HX:=qh h;have L1:Hid ((d4 (signed b k).natAbs).length≤90000):=by rw [(signed_form b k).2];exact hl
 have HP:Hid (0<10 ^ S):=Nat.pow_pos (by decide);clear h hl;go_enter Tryz.func162,Tryz.ntmps162;go_upto_region 1 with fail;refine wp_letter (fun w1=>Blk w1 w.heap.size 68 [.bool b,.slice A n c,.int .i64 (S:Int)]∧Blk w1 (w.heap.size+1) 173 [.bool false,.slice none 0 0,.slice none 0 0]∧Below w.heap.size w w1) ⟨((Blk.made _ 68 _ _ _ (by simp) rfl).alloc _),(Blk.made _ 173 _ _ _ (by simp) rfl),(((Below.refl _ _).alloc (by simp;try omega) _).alloc (by simp;try omega) _)⟩ ?_;rintro w1 ⟨b0,b1,hb⟩;have HB:=qh hb;have K0:=qh b0;have K1:=qh b1;have hz:=b1.lt;clear hb b0 b1;have HX1:=qh (HX.o.bel HB.o);have HKK:Hid (∀ w',Hold w1 (w.heap.size+1) 173 3 w'→w'.cell? ⟨w.heap.size,0,none⟩=some (.bool b)∧w'.cell? ⟨w.heap.size,1,none⟩=some (.slice A n c)∧w'.cell? ⟨w.heap.size,2,none⟩=some (.int .i64 (S:Int))∧w'.cell? ⟨w.heap.size+1,0,none⟩=some (cellAt w' ⟨w.heap.size+1,0,none⟩)∧w'.cell? ⟨w.heap.size+1,1,none⟩=some (cellAt w' ⟨w.heap.size+1,1,none⟩)∧w'.cell? ⟨w.heap.size+1,2,none⟩=some (cellAt w' ⟨w.heap.size+1,2,none⟩)∧w'.frozen? ⟨w.heap.size+1,0,none⟩=false∧w'.frozen? ⟨w.heap.size+1,1,none⟩=false∧w'.frozen? ⟨w.heap.size+1,2,none⟩=false∧Hold w1 (w.heap.size+1) 173 3 w'):=fun w' h=>⟨(h.blk K0.o (by omega)).cell 0,(h.blk K0.o (by omega)).cell 1,(h.blk K0.o (by omega)).cell 2,h.cell 0 (by omega),h.cell 1 (by omega),h.cell 2 (by omega),h.frozen 0,h.frozen 1,h.frozen 2,h⟩;have HSt:Hid (Hold w1 (w.heap.size+1) 173 3 w1):=Hold.start K1.o (by simp [No32])
 go_region_held3 (fun w'=>w'.cell? ⟨w.heap.size,0,none⟩=some (.bool b)∧w'.cell? ⟨w.heap.size,1,none⟩=some (.slice A n c)∧w'.cell? ⟨w.heap.size,2,none⟩=some (.int .i64 (S:Int))∧w'.cell? ⟨w.heap.size+1,0,none⟩=some (cellAt w' ⟨w.heap.size+1,0,none⟩)∧w'.cell? ⟨w.heap.size+1,1,none⟩=some (cellAt w' ⟨w.heap.size+1,1,none⟩)∧w'.cell? ⟨w.heap.size+1,2,none⟩=some (cellAt w' ⟨w.heap.size+1,2,none⟩)∧w'.frozen? ⟨w.heap.size+1,0,none⟩=false∧w'.frozen? ⟨w.heap.size+1,1,none⟩=false∧w'.frozen? ⟨w.heap.size+1,2,none⟩=false∧Hold w1 (w.heap.size+1) 173 3 w')
  (first|exact HKK.o _ HSt.o.drew|(go_split_ands;first|exact HKK.o _ (Hold.call ‹Hold w1 (w.heap.size+1) 173 3 _› hb2)|exact HKK.o _ (Hold.call ‹Hold w1 (w.heap.size+1) 173 3 _› hb3)|exact HKK.o _ (Hold.call ‹Hold w1 (w.heap.size+1) 173 3 _› hb4)|exact HKK.o _ (((‹Hold w1 (w.heap.size+1) 173 3 _›.set 0 _ (by simp)).set 1 _ (by simp)).set 2 _ (by simp))))
  (first|((with_reducible refine (ref_ZOf _ b A n c k ?_).mono ?_);(refine D4.hold (W:=w1) (g:=w.heap.size+1) (t:=173) (n:=3) ?_ K1.o (noI_q _ _ _ _ _ _ _) HX1.o;(go_split_ands;assumption));rintro e w2 ⟨⟨b2,A2,n2,c2,rfl,hr2⟩,hb2⟩)|((with_reducible refine (ref_Ten _ S (by omega)).mono ?_);rintro e w3 ⟨⟨A3,n3,c3,rfl,hr3⟩,hb3⟩)|((with_reducible refine (ref_QOf _ b2 A2 n2 c2 A3 n3 c3 (signed b k) (10 ^ S) (hr2.bel hb3) hr3 HP.o L1.o (ten_len (by omega))).mono ?_);rintro e w4 ⟨⟨b4,A4,n4,c4,A5,n5,c5,rfl,hr4⟩,hb4⟩))
 have hh:=(((HSt.o.drew.call hb2).call hb3).call hb4);have hg:=(((hh.set 0 (.bool b4) (by simp)).set 1 (.slice A4 n4 c4) (by simp)).set 2 (.slice A5 n5 c5) (by simp));have hB3:Blk w4 (w.heap.size+1) 173 [.bool false,.slice none 0 0,.slice none 0 0]:=(bb_ (bb_ (bb_ (K1.o.below ((Below.refl w1.heap.size w1).drew) K1.o.lt) hb2) hb3) hb4);have hf:=(((hB3.put 0 (.bool b4)).put 1 (.slice A4 n4 c4)).put 2 (.slice A5 n5 c5));simp only [M0,M1] at hf;have hs:=(hr4.up.d4).put3 hB3 (noI_q _ _ _ _ _ _ _) (.bool b4) (.slice A4 n4 c4) (.slice A5 n5 c5);have hs2:=(hr4.down).put3 hB3 (noI_q _ _ _ _ _ _ _) (.bool b4) (.slice A4 n4 c4) (.slice A5 n5 c5);obtain ⟨r0,r1,r2⟩:=hf.c3;generalize (((w4.setCell ⟨w.heap.size+1,0,none⟩ (.bool b4)).setCell ⟨w.heap.size+1,1,none⟩ (.slice A4 n4 c4)).setCell ⟨w.heap.size+1,2,none⟩ (.slice A5 n5 c5))=wf at *
 go_wp2
 refine bodyPost_ret (v:=.agg #[.bool b4,.slice A4 n4 c4,.slice A5 n5 c5]) (by simp [results,Tryz.results162,go_sem,r0,r1,r2];try rfl) rfl ?_;exact ⟨⟨_,_,⟨_,_,_,_,_,_,_,rfl,⟨⟨hr4.up.sign,hs⟩,hs2⟩⟩,low_of hr2.sign HP.o⟩,HB.o.trans (hg.below (by omega))⟩
theorem signed_no (k:Nat):signed false k=(k:Int):=rfl
theorem ref_Abs (w:World) (b:Bool) (A:Option Addr) (n c:Nat) (B:Option Addr) (m d:Nat) (p:Int) (q:Nat) (h:RQ4 w b A n c B m d p q) :
  Calls Tryz.prog 161 #[.agg #[.bool b,.slice A n c,.slice B m d]] w fun e w'=>RetQ4 e w' (p.natAbs:Int) q∧Below w.heap.size w w':=by
 have HX:=qh h;clear h;go_enter Tryz.func161,Tryz.ntmps161;go_upto_region 1 with fail;refine wp_letter (fun w1=>Blk w1 w.heap.size 173 [.bool b,.slice A n c,.slice B m d]∧Blk w1 (w.heap.size+1) 173 [.bool false,.slice none 0 0,.slice none 0 0]∧Below w.heap.size w w1) ⟨((Blk.made _ 173 _ _ _ (by simp) rfl).alloc _),(Blk.made _ 173 _ _ _ (by simp) rfl),(((Below.refl _ _).alloc (by simp;try omega) _).alloc (by simp;try omega) _)⟩ ?_;rintro w1 ⟨b0,b1,hb⟩;have HB:=qh hb;have K0:=qh b0;have K1:=qh b1;have hz:=b1.lt;clear hb b0 b1;have HX1:=qh (HX.o.bel HB.o);have HKK:Hid (∀ w',Hold w1 (w.heap.size+1) 173 3 w'→w'.cell? ⟨w.heap.size,0,none⟩=some (.bool b)∧w'.cell? ⟨w.heap.size,1,none⟩=some (.slice A n c)∧w'.cell? ⟨w.heap.size,2,none⟩=some (.slice B m d)∧w'.cell? ⟨w.heap.size+1,0,none⟩=some (cellAt w' ⟨w.heap.size+1,0,none⟩)∧w'.cell? ⟨w.heap.size+1,1,none⟩=some (cellAt w' ⟨w.heap.size+1,1,none⟩)∧w'.cell? ⟨w.heap.size+1,2,none⟩=some (cellAt w' ⟨w.heap.size+1,2,none⟩)∧w'.frozen? ⟨w.heap.size+1,0,none⟩=false∧w'.frozen? ⟨w.heap.size+1,1,none⟩=false∧w'.frozen? ⟨w.heap.size+1,2,none⟩=false∧Hold w1 (w.heap.size+1) 173 3 w'):=fun w' h=>⟨(h.blk K0.o (by omega)).cell 0,(h.blk K0.o (by omega)).cell 1,(h.blk K0.o (by omega)).cell 2,h.cell 0 (by omega),h.cell 1 (by omega),h.cell 2 (by omega),h.frozen 0,h.frozen 1,h.frozen 2,h⟩;have HSt:Hid (Hold w1 (w.heap.size+1) 173 3 w1):=Hold.start K1.o (by simp [No32])
 go_region_held3 (fun w'=>w'.cell? ⟨w.heap.size,0,none⟩=some (.bool b)∧w'.cell? ⟨w.heap.size,1,none⟩=some (.slice A n c)∧w'.cell? ⟨w.heap.size,2,none⟩=some (.slice B m d)∧w'.cell? ⟨w.heap.size+1,0,none⟩=some (cellAt w' ⟨w.heap.size+1,0,none⟩)∧w'.cell? ⟨w.heap.size+1,1,none⟩=some (cellAt w' ⟨w.heap.size+1,1,none⟩)∧w'.cell? ⟨w.heap.size+1,2,none⟩=some (cellAt w' ⟨w.heap.size+1,2,none⟩)∧w'.frozen? ⟨w.heap.size+1,0,none⟩=false∧w'.frozen? ⟨w.heap.size+1,1,none⟩=false∧w'.frozen? ⟨w.heap.size+1,2,none⟩=false∧Hold w1 (w.heap.size+1) 173 3 w')
  (first|exact HKK.o _ HSt.o.drew|(go_split_ands;first|exact HKK.o _ (Hold.call ‹Hold w1 (w.heap.size+1) 173 3 _› hb2)|exact HKK.o _ (((‹Hold w1 (w.heap.size+1) 173 3 _›.set 0 _ (by simp)).set 1 _ (by simp)).set 2 _ (by simp))))
  (first|((with_reducible refine (ref_ZOf _ false A n c p.natAbs ?_).mono ?_);(refine D4.hold (W:=w1) (g:=w.heap.size+1) (t:=173) (n:=3) ?_ K1.o (noI_q _ _ _ _ _ _ _) HX1.o.up.d4;(go_split_ands;assumption));rw [signed_no];rintro e w2 ⟨⟨b2,A2,n2,c2,rfl,hr2⟩,hb2⟩))
 have hh:=(HSt.o.drew.call hb2);have hg:=(((hh.set 0 (.bool b2) (by simp)).set 1 (.slice A2 n2 c2) (by simp)).set 2 (.slice B m d) (by simp));have hB3:Blk w2 (w.heap.size+1) 173 [.bool false,.slice none 0 0,.slice none 0 0]:=(bb_ (K1.o.below ((Below.refl w1.heap.size w1).drew) K1.o.lt) hb2);have hf:=(((hB3.put 0 (.bool b2)).put 1 (.slice A2 n2 c2)).put 2 (.slice B m d));simp only [M0,M1] at hf;have hs:=(hr2.d4).put3 hB3 (noI_q _ _ _ _ _ _ _) (.bool b2) (.slice A2 n2 c2) (.slice B m d);have hs2:=((HX1.o.down.below ((Below.refl w1.heap.size w1).drew) ql).bel hb2).put3 hB3 (noI_q _ _ _ _ _ _ _) (.bool b2) (.slice A2 n2 c2) (.slice B m d);obtain ⟨r0,r1,r2⟩:=hf.c3;generalize (((w2.setCell ⟨w.heap.size+1,0,none⟩ (.bool b2)).setCell ⟨w.heap.size+1,1,none⟩ (.slice A2 n2 c2)).setCell ⟨w.heap.size+1,2,none⟩ (.slice B m d))=wf at *
 go_wp2
 refine bodyPost_ret (v:=.agg #[.bool b2,.slice A2 n2 c2,.slice B m d]) (by simp [results,Tryz.results161,go_sem,r0,r1,r2];try rfl) rfl ?_;exact ⟨⟨_,_,_,_,_,_,_,rfl,⟨⟨hr2.sign,hs⟩,hs2⟩⟩,HB.o.trans (hg.below (by omega))⟩
theorem ref_whole (w:World) (A:Option Addr) (n c k:Nat) (h:D4 w A n c k) :
  Calls Tryz.prog 163 #[.slice A n c] w fun e w'=>RetQ4 e w' (k:Int) 1∧Below w.heap.size w w':=by
 have HX:=qh h;clear h;go_enter Tryz.func163,Tryz.ntmps163;go_wp2_with fail;refine calls_letter (fun w1=>Blk w1 w.heap.size 173 [.bool false,.slice none 0 0,.slice none 0 0]∧Below w.heap.size w w1) ⟨(Blk.made _ 173 _ _ _ (by simp) rfl),(Below.refl _ _).alloc ql _⟩ ?_;rintro w1 ⟨b1,hb⟩;have HB:=qh hb;have H1:=qh b1;clear hb b1;refine (ref_Small w1 1 (by decide)).mono ?_;rintro e w3 ⟨⟨A3,n3,c3,rfl,hr3⟩,hb3⟩;have HR3:=qh hr3;have HX3:=qh ((HX.o.bel HB.o).bel hb3);have H3:=qh (H1.o.below hb3 H1.o.lt);obtain ⟨k0,k1,k2⟩:=H3.o.c3;have f0:=H3.o.frozen 0;have f1:=H3.o.frozen 1;have f2:=H3.o.frozen 2;have HB4:=qt HB hb3;clear hr3 hb3;dsimp only;go_wp2_with fail;have hf:=((H3.o.put 0 (.bool false)).put 1 (.slice A n c)).put 2 (.slice A3 n3 c3);simp only [M0,M1] at hf;have hd:=HX3.o.put3 H3.o (noI_q _ _ _ _ _ _ _) (.bool false) (.slice A n c) (.slice A3 n3 c3);have hd2:=HR3.o.put3 H3.o (noI_q _ _ _ _ _ _ _) (.bool false) (.slice A n c) (.slice A3 n3 c3);have hb5:=below_set (below_set (below_set HB4.o w.heap.size 0 ql (.bool false)) w.heap.size 1 ql (.slice A n c)) w.heap.size 2 ql (.slice A3 n3 c3);obtain ⟨r0,r1,r2⟩:=hf.c3;generalize (((w3.setCell ⟨w.heap.size,0,none⟩ (.bool false)).setCell ⟨w.heap.size,1,none⟩ (.slice A n c)).setCell ⟨w.heap.size,2,none⟩ (.slice A3 n3 c3))=wf at *
 refine bodyPost_ret (v:=.agg #[.bool false,.slice A n c,.slice A3 n3 c3]) (by simp [results,Tryz.results163,go_sem,r0,r1,r2];try rfl) rfl ?_;exact ⟨⟨_,_,_,_,_,_,_,rfl,⟨hd.z,hd2⟩⟩,hb5⟩
theorem ref_Small10 (w:World):Calls Tryz.prog 77 #[.int .u64 10] w fun e w'=>RetD4 e w' 10∧Below w.heap.size w w':=ref_Small w 10 (by decide)
theorem ref_Small1 (w:World):Calls Tryz.prog 77 #[.int .u64 1] w fun e w'=>RetD4 e w' 1∧Below w.heap.size w w':=ref_Small w 1 (by decide)
def Far (A:Option Addr) (n c k g:Nat):Prop:=k≠0→∀ j,(Value.slice A n c).ownBlock=some j→j≠g
theorem D4.setFar {w:World} {A:Option Addr} {n c k g:Nat} (h:D4 w A n c k) (hf:Far A n c k g) (p:Nat) (u:Value):D4 (w.setCell ⟨g,p,none⟩ u) A n c k:=by
 by_cases hk:k=0
 ·subst hk;obtain ⟨⟨A',c',h1,h2,h3,h4⟩,hd⟩:=h;exact ⟨⟨A',c',h1,h2,h3,fun hp=>absurd hp (by rw [d4_zero];simp)⟩,hd⟩
 ·exact ⟨SlC.stable h.1 fun j hj _=>Below.heap_setCell _ _ _ _ (hf hk j hj),h.2⟩
theorem D4.old {w:World} {A:Option Addr} {n c k g:Nat} (h:D4 w A n c k) (hg:w.heap.size≤g):Far A n c k g:=by
 intro hk j hj;obtain ⟨⟨A',c',h1,h2,h3,h4⟩,hd⟩:=h;have hp:0<(d4 k).length:=(d4_len_pos k).2 (by omega);obtain ⟨b,o,h5,h6⟩:=h4 (by simpa using hp);have h0:=h6 0 (.int .i64 (((d4 k)[0]:Nat):Int)) (by rw [List.getElem?_map,List.getElem?_eq_getElem hp];rfl);have hlt:=World.block_lt_of_cell? w _ h0;obtain ⟨rfl,-,-⟩:=Value.slice.inj h1;subst h5;cases hj
 show b≠g;have:b<w.heap.size:=hlt;omega
theorem fresh_far {A:Option Addr} {n c k g B:Nat} (h:∀ j,(Value.slice A n c).ownBlock=some j→B≤j) (hg:g<B):Far A n c k g:=fun _ j hj=>by have:=h j hj;omega
def RetDS (e:Ending) (w':World) (k s:Nat):Prop:=∃ A n c,e=.returned (.agg #[.bool false,.slice A n c,.int .i64 (s:Int)])∧D4 w' A n c k
theorem ref_DShort (w:World) (A:Option Addr) (n c k S:Nat) (h:D4 w A n c k) (hl:(d4 k).length≤90000) (hS:S≤1000) :
  Calls Tryz.prog 160 #[.agg #[.bool false,.slice A n c,.int .i64 (S:Int)]] w fun e w'=>RetDS e w' (short k S).1 (short k S).2∧Below w.heap.size w w':=by
 have HX:=qh h;have L1:=qh hl;clear h hl;go_enter Tryz.func160,Tryz.ntmps160
 go_upto_block 0 with fail
 refine wp_letter (fun w1=>Blk w1 w.heap.size 68 [.bool false,.slice A n c,.int .i64 (S:Int)]∧Blk w1 (w.heap.size+1) 68 [.bool false,.slice none 0 0,.int .i64 0]∧Below w.heap.size w w1) ⟨((Blk.made _ 68 _ _ _ (by simp) rfl).alloc _),(Blk.made _ 68 _ _ _ (by simp) rfl),((Below.refl _ _).alloc (by simp;try omega) _).alloc (by simp;try omega) _⟩ ?_;rintro w1 ⟨b0,b1,hb⟩;have K0:=qh b0;have K1:=qh b1;have HB:=qh hb;clear b0 b1 hb;go_wp2_with fail;go_loopg [3,4] S (fun G s3 s4 wr=>∃ (A1:Option Addr) (n1 c1 k':Nat),Blk wr w.heap.size 68 [.bool false,.slice A1 n1 c1,.int .i64 (G:Int)]∧Blk wr (w.heap.size+1) 68 [.bool false,.slice none 0 0,.int .i64 0]∧D4 wr A1 n1 c1 k'∧Far A1 n1 c1 k' w.heap.size∧Far A1 n1 c1 k' (w.heap.size+1)∧short k' G=short k S∧G≤S∧k'≤k∧Below w.heap.size w wr)
 case atStart=>exact ⟨A,n,c,k,K0.o,K1.o,HX.o.bel HB.o,HX.o.old ql,HX.o.old (by omega),rfl,ql,ql,HB.o⟩
 case round =>
  obtain ⟨A1,n1,c1,k',b0,b1,hd,hf0,hf1,hsh,hGS,hk',hbw⟩:=hrel;obtain ⟨wo,rfl⟩:∃ wo:World,wo=wr:=⟨_,rfl⟩;have B0:=qh b0;have B1:=qh b1;have HD:=qh hd;have F0:=qh hf0;have F1:=qh hf1;have HSH:=qh hsh;have HK':=qh hk';have HBW:=qh hbw;have hsz:=hbw.size;have hz:=b1.lt;clear hd hf0 hf1 hsh hbw hk' K0 K1 HB;by_cases hg:0<gk
  case neg =>
   obtain rfl:gk=0:=by omega
   have hgI:¬ (0:Int)<((0:Nat):Int):=by omega
   obtain ⟨k00,k01,k02⟩:=b0.c3;obtain ⟨k10,k11,k12,f10,f11,f12⟩:=b1.cf3;clear b0 b1;go_wp2_with fail;have hf:=((B1.o.put 0 (.bool false)).put 1 (.slice A1 n1 c1)).put 2 (.int .i64 ((0:Nat):Int));have hs:=((HD.o.setFar F1.o 0 (.bool false)).setFar F1.o 1 (.slice A1 n1 c1)).setFar F1.o 2 (.int .i64 ((0:Nat):Int));have hb5:=below_set (below_set (below_set HBW.o (w.heap.size+1) 0 (by omega) (.bool false)) (w.heap.size+1) 1 (by omega) (.slice A1 n1 c1)) (w.heap.size+1) 2 (by omega) (.int .i64 ((0:Nat):Int));simp only [M0,M1] at hf;obtain ⟨r0,r1,r2⟩:=hf.c3;generalize (((wo.setCell ⟨w.heap.size+1,0,none⟩ (.bool false)).setCell ⟨w.heap.size+1,1,none⟩ (.slice A1 n1 c1)).setCell ⟨w.heap.size+1,2,none⟩ (.int .i64 ((0:Nat):Int)))=wf at *
   refine bodyPost_ret (v:=.agg #[.bool false,.slice A1 n1 c1,.int .i64 ((0:Nat):Int)]) (by simp [results,Tryz.results160,go_sem,r0,r1,r2];try rfl) rfl ?_;rw [← HSH.o];exact ⟨⟨A1,n1,c1,rfl,hs⟩,hb5⟩
  obtain ⟨g,rfl⟩:∃ g,gk=g+1:=⟨gk - 1,by omega⟩;have hgI:(0:Int)<((g+1:Nat):Int):=by omega
  have hg1:((g+1:Nat):Int) - 1=(g:Int):=by omega
  have hgS:((g+1:Nat):Int)≤1000:=by omega
  have HKK:Hid (∀ w',Below wo.heap.size wo w'→w'.cell? ⟨w.heap.size,1,none⟩=some (.slice A1 n1 c1)∧Below wo.heap.size wo w'):=fun w' h=>⟨(B0.o.below h B0.o.lt).cell 1,h⟩;obtain ⟨-,-,k02⟩:=b0.c3;have HGG:Hid (((g+1:Nat):Int)=((g+1:Nat):Int)):=rfl;obtain ⟨G1,hG1⟩:∃ G1:Int,((g+1:Nat):Int)=G1:=⟨_,rfl⟩;have HG1:=qh hG1;rw [hG1] at hgI hg1 hgS k02;clear b0 b1 HGG hG1;go_upto_region 2 with fail
  go_region_held3 (fun w'=>w'.cell? ⟨w.heap.size,1,none⟩=some (.slice A1 n1 c1)∧Below wo.heap.size wo w')
   (first|exact HKK.o _ (Below.refl _ _).drew|(go_split_ands;first|exact HKK.o _ (Below.trans ‹Below wo.heap.size wo _› (hb2.mono (Below.size ‹Below wo.heap.size wo _›)))|exact HKK.o _ (Below.trans ‹Below wo.heap.size wo _› (hb3.mono (Below.size ‹Below wo.heap.size wo _›)))))
   (first|((with_reducible refine (ref_Small10 _).mono ?_);rintro e w2 ⟨⟨A2,n2,c2,rfl,hr2⟩,hb2⟩)|((with_reducible refine (ref_DivF _ A1 A2 n1 c1 n2 c2 k' 10 (HD.o.below ?_ ql) hr2 (le_of_le (Nat.le_trans (d4_len_le HK'.o) L1.o)) (le_of_le (d4_len (n:=1) (by decide))) (by decide)).mono ?_);(go_split_ands;assumption);rintro e w3 ⟨⟨A3,n3,c3,A4,n4,c4,rfl,hr3,hr4,hfr⟩,hb3⟩))
  have hbf:Below wo.heap.size wo w3:=(by go_split_ands;assumption);have hsz2:wo.heap.size≤w2.heap.size:=(by have:=hb2.size;simpa using this);have C0:=qh (B0.o.below hbf B0.o.lt);have C1:=qh (B1.o.below hbf B1.o.lt);have HD3:=qh (HD.o.bel hbf);have HBF:=qt HBW hbf;have HR3:=qh hr3;have hn4:=hr4.1.len;have HFR0:Hid (Far A3 n3 c3 (k' / 10) w.heap.size):=fresh_far hfr (by omega);have HFR1:Hid (Far A3 n3 c3 (k' / 10) (w.heap.size+1)):=fresh_far hfr (by omega);have hlp:=d4_len_pos (k' % 10);rw [← hn4] at hlp;clear hbf hr3 hr4 hn4 hfr hr2 hb2 hb3 B0 B1 HKK HD k02;obtain ⟨k00,k01,k02⟩:=C0.o.c3;obtain ⟨k10,k11,k12⟩:=C1.o.c3;have f00:=C0.o.frozen 0;have f01:=C0.o.frozen 1;have f02:=C0.o.frozen 2;have f10:=C1.o.frozen 0;have f11:=C1.o.frozen 1;have f12:=C1.o.frozen 2;rw [HG1.o] at k02;by_cases hm:k' % 10=0
  ·have h4I:¬ (0:Int)<(n4:Int):=by have:=hlp.1;omega
   have hnx:short (k' / 10) g=short k S:=by rw [← HSH.o];simp [short,hm]
   have HNX:=qh hnx;have hd0:Hid (k' / 10≤k):=Nat.le_trans (Nat.div_le_self _ _) HK'.o;clear hlp hm hnx k10 k11 k12 f10 f11 f12;go_wp2_with fail;have hf:=((C0.o.put 0 (.bool false)).put 1 (.slice A3 n3 c3)).put 2 (.int .i64 (g:Int));have hf1:=((C1.o.far ⟨w.heap.size,0,none⟩ (.bool false) (by simp)).far ⟨w.heap.size,1,none⟩ (.slice A3 n3 c3) (by simp)).far ⟨w.heap.size,2,none⟩ (.int .i64 (g:Int)) (by simp);have hs:=((HR3.o.setFar HFR0.o 0 (.bool false)).setFar HFR0.o 1 (.slice A3 n3 c3)).setFar HFR0.o 2 (.int .i64 (g:Int));have hb5:=below_set (below_set (below_set HBF.o w.heap.size 0 (by omega) (.bool false)) w.heap.size 1 (by omega) (.slice A3 n3 c3)) w.heap.size 2 (by omega) (.int .i64 (g:Int));simp only [M0,M1] at hf;generalize (((w3.setCell ⟨w.heap.size,0,none⟩ (.bool false)).setCell ⟨w.heap.size,1,none⟩ (.slice A3 n3 c3)).setCell ⟨w.heap.size,2,none⟩ (.int .i64 (g:Int)))=wf at *
   go_roundg g
   case measure=>omega
   case rel=>exact ⟨A3,n3,c3,k' / 10,hf,hf1,hs,HFR0.o,HFR1.o,HNX.o,by omega,hd0.out,hb5⟩
  ·have h4I:(0:Int)<(n4:Int):=by have:=hlp.2 (by omega);omega
   have hnx:short k S=(k',g+1):=by rw [← HSH.o];simp [short,hm]
   have HNX:=qh hnx;clear hlp hm hnx f00 f01 f02;go_wp2_with fail;have hf:=((C1.o.put 0 (.bool false)).put 1 (.slice A1 n1 c1)).put 2 (.int .i64 G1);have hs:=((HD3.o.setFar F1.o 0 (.bool false)).setFar F1.o 1 (.slice A1 n1 c1)).setFar F1.o 2 (.int .i64 G1);have hb5:=below_set (below_set (below_set HBF.o (w.heap.size+1) 0 (by omega) (.bool false)) (w.heap.size+1) 1 (by omega) (.slice A1 n1 c1)) (w.heap.size+1) 2 (by omega) (.int .i64 G1);simp only [M0,M1] at hf;obtain ⟨r0,r1,r2⟩:=hf.c3;generalize (((w3.setCell ⟨w.heap.size+1,0,none⟩ (.bool false)).setCell ⟨w.heap.size+1,1,none⟩ (.slice A1 n1 c1)).setCell ⟨w.heap.size+1,2,none⟩ (.int .i64 G1))=wf at *
   refine bodyPost_ret (v:=.agg #[.bool false,.slice A1 n1 c1,.int .i64 G1]) (by simp [results,Tryz.results160,go_sem,r0,r1,r2];try rfl) rfl ?_;rw [HNX.o];exact ⟨⟨A1,n1,c1,by rw [← HG1.o],hs⟩,hb5⟩
end Go.Proofs.YtdgleeglndcjhaaGreatDoor
