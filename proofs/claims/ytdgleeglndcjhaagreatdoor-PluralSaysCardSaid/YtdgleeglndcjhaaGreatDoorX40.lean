import Derived.Test.YtdgleeglndcjhaaGreatDoorX34
import Derived.Test.YtdgleeglndcjhaaGreatDoorX24
set_option linter.unusedSimpArgs false
set_option linter.unusedVariables false
set_option maxHeartbeats 32000000
set_option maxRecDepth 100000
namespace Go.Proofs.YtdgleeglndcjhaaGreatDoor
open Go.RowKit
theorem ofVal_bound {k S l:Nat} (hl:(d4 k).length≤5000) (hS:S≤1000):(d4 (ofVal k S l).1).length≤5000∧(d4 (ofVal k S l).2).length≤5000∧0<(ofVal k S l).2:=by
 have h1:∀ x,x≤k→(d4 x).length≤5000:=fun x hx=>Nat.le_trans (d4_len_le hx) hl;have h2:∀ x,x≤1000→(d4 x).length≤5000:=fun x hx=>le_of_le (d4_len (k:=x) (n:=1) (by omega));have hb:=short_bound S k
 have h3:(d4 (10 ^ S)).length≤5000:=by
  refine le_of_le (d4_len (k:=10 ^ S) (n:=S+1) ?_);refine Nat.lt_of_le_of_lt (Nat.pow_le_pow_left (show 10≤10000 by decide) S) (Nat.pow_lt_pow_right (by decide) (by omega))
 have h4:0<10 ^ S:=Nat.pow_pos (by decide);have hm1:=Nat.mod_le k (10 ^ S);have hm2:=Nat.mod_le (short k S).1 (10 ^ (short k S).2);have hd:=Nat.div_le_self k (10 ^ S);unfold ofVal opVal;split
 ·exact ⟨hl,h3,h4⟩
 split
 ·exact ⟨h1 _ hd,h2 1 (by omega),Nat.zero_lt_one⟩
 split
 ·exact ⟨h2 _ hS,h2 1 (by omega),Nat.zero_lt_one⟩
 split
 ·exact ⟨h2 _ (by omega),h2 1 (by omega),Nat.zero_lt_one⟩
 split
 ·exact ⟨h1 _ hm1,h2 1 (by omega),Nat.zero_lt_one⟩
 split
 ·exact ⟨h1 _ (by omega),h2 1 (by omega),Nat.zero_lt_one⟩
 ·exact ⟨h2 0 (by omega),h2 1 (by omega),Nat.zero_lt_one⟩
def XIs (W:World) (g X Q:Nat) (w:World):Prop:=∃ b A n c B m d p q,Blk w g 173 [.bool b,.slice A n c,.slice B m d]∧RQ4 w b A n c B m d p q∧Low (X:Int) Q p q∧Below W.heap.size W w
theorem bb_new {w w':World} {t:TypeId} {l:List Value} (hb:Below (w.alloc (.cells l.toArray t (0,0))).heap.size (w.alloc (.cells l.toArray t (0,0))) w'):Blk w' w.heap.size t l:=bb_ (Blk.made w t l _ _ rfl rfl) hb
theorem bb_newd {w w':World} {t:TypeId} {l:List Value} (hb:Below (w.alloc (.cells l.toArray t (0,0))).drew.heap.size (w.alloc (.cells l.toArray t (0,0))).drew w'):Blk w' w.heap.size t l:=bb_ (w:=(w.alloc (.cells l.toArray t (0,0))).drew) (Blk.made w t l _ _ rfl rfl) hb
theorem sign_ge {X Q q k:Nat} (hQ:0<Q) (h:Low (X:Int) Q (k:Int) q) (f:Nat):decide ((0:Int)≤((k:Int) * ((1:Nat):Int) - (f:Int) * (q:Int)).sign)=decide (f * Q≤X):=by
 rw [decide_eq_decide];exact (low_between hQ h f).1
theorem sign_lo {X Q q k:Nat} (hQ:0<Q) (h:Low (X:Int) Q (k:Int) q) (f:Nat):decide (((k:Int) * ((1:Nat):Int) - (f:Int) * (q:Int)).sign≤0)=decide (X≤f * Q):=by
 rw [decide_eq_decide];exact (low_between hQ h f).2
theorem one_text (q:Nat):(Lib.decDigits q == [49])=decide (q=1):=by
 rw [Bool.eq_iff_iff,beq_iff_eq,decide_eq_true_eq];constructor
 ·intro h;have h1:=decFrom_decDigits q;rw [h] at h1;have h2:Lib.decFrom 0 [49]=some 1:=by decide
  rw [h2] at h1;exact (Option.some.inj h1).symm
 ·rintro rfl;exact Lib.decDigits_one (by decide)
theorem ref_holds (w:World) (c:Cnd) (FA TA A:Option Addr) (fn fc tn tc n cc k S:Nat) (b:Bool) (hf:IntsAre w FA fn fc c.fr) (ht:IntsAre w TA tn tc c.to) (hv:Valid c) (hs:SmallC c) (h:D4 w A n cc k) (hl:(d4 k).length≤5000) (hS:S≤1000) :
  Calls Tryz.prog 68 #[.agg #[.int .u8 (c.letter:Int),.int .i64 c.mod,.bool c.nt,.slice FA fn fc,.slice TA tn tc],.agg #[.bool b,.slice A n cc,.int .i64 (S:Int)]] w fun e w'=>e=.returned (.bool (condV (ofVal k S) c))∧Below w.heap.size w w':=by
 obtain ⟨l,m,L,hlt,hm,h0,h5,he⟩:=hv.mk'
 have hcv:condV (ofVal k S) c=condHolds (ofVal k S l.toNat).1 (ofVal k S l.toNat).2 m c.nt ((L.map (·.1)).zip (L.map (·.2))):=by
  rw [he,condV_mk,zip_back]
  rfl
 rw [hcv];have efr:c.fr=(L.map (·.1)).map fun x:Nat=>(x:Int):=by rw [he,List.map_map];rfl
 have eto:c.to=(L.map (·.2)).map fun x:Nat=>(x:Int):=by rw [he,List.map_map];rfl
 rw [efr] at hf;rw [eto] at ht;have HFI:=qh (IntsAre.il hf);have HTI:=qh (IntsAre.il ht);have hlet:c.letter=l.toNat:=by rw [he];rfl
 have hmod:c.mod=(m:Int):=by rw [he];rfl
 rw [hlet,hmod];have hlen:L.length≤1000:=by have:=hs.nf;rw [he] at this;simpa [mkC] using this
 obtain ⟨fs,hfs⟩:∃ fs,L.map (·.1)=fs:=⟨_,rfl⟩;obtain ⟨ts,hts⟩:∃ ts,L.map (·.2)=ts:=⟨_,rfl⟩;have hfl:fs.length=L.length:=by rw [← hfs];simp
 have htl:ts.length=L.length:=by rw [← hts];simp
 have hfb:∀ f ∈ fs,f<1000000000:=by
  intro f hf';rw [← hfs] at hf';obtain ⟨e,he',rfl⟩:=List.mem_map.1 hf';have:=h5 e he';omega
 have htb:∀ f ∈ ts,f<1000000000:=by
  intro f hf';rw [← hts] at hf';obtain ⟨e,he',rfl⟩:=List.mem_map.1 hf';exact (h5 e he').2
 have hL0:0<L.length:=List.length_pos_iff.2 h0;rw [hfs] at hf HFI ⊢;rw [hts] at ht HTI ⊢;have HFB:=qh hfb;have HTB:=qh htb;have HX:=qh h;have L1:=qh hl;obtain ⟨hb1,hb2,hb3⟩:=ofVal_bound (l:=l.toNat) hl hS;obtain ⟨V,hV⟩:∃ V,ofVal k S l.toNat=V:=⟨_,rfl⟩;obtain ⟨P,Q⟩:=V;rw [hV] at hb1 hb2 hb3 ⊢;have HV:=qh hV;have LP:=qh hb1;have LQ:=qh hb2;have HQ0:=qh hb3;generalize c.nt=nt at *
 generalize l.toNat=lt at *
 clear hf ht hv hs h hl hcv he hlet hmod h5 efr eto hfs hts hfb htb hb1 hb2 hb3 hV hlt h0;obtain ⟨Y,hY⟩:∃ Y,condHolds P Q m nt (fs.zip ts)=Y:=⟨_,rfl⟩;simp only;rw [hY];have HY:=qh hY;clear hY;go_enter Tryz.func68,Tryz.ntmps68;go_upto_region 1 with fail;refine wp_letter (fun w1=>Blk w1 w.heap.size 118 [.int .u8 (lt:Int),.int .i64 (m:Int),.bool nt,.slice FA fn fc,.slice TA tn tc]∧Blk w1 (w.heap.size+1) 68 [.bool b,.slice A n cc,.int .i64 (S:Int)]∧Below w.heap.size w w1) ⟨((Blk.made _ 118 _ _ _ (by simp) rfl).alloc _),(Blk.made _ 68 _ _ _ (by simp) rfl),((Below.refl _ _).alloc (by simp;try omega) _).alloc (by simp;try omega) _⟩ ?_;rintro w1 ⟨b0,b1,hb⟩;have K0:=qh b0;have HB:=qh hb;have k00:=b0.c1;obtain ⟨k10,k11,k12⟩:=b1.c3;have hz:=b1.lt;clear b0 b1 hb;go_wp2_with fail;refine (ref_Value w1 b A n cc k S lt (HX.o.bel HB.o) (le_of_le L1.o) hS).mono ?_;rw [HV.o];rintro e w2 ⟨⟨p,q,bx,Ax,nx,cx,Bx,mx,dx,rfl,hrx,hlow⟩,hb2⟩;obtain ⟨kx,rfl,hkx⟩:=hlow.val HQ0.o;obtain rfl:bx=false:=by rw [hrx.up.sign];simp
 have x0:=K0.o.below hb2 (by omega);have hb02:=HB.o.trans (hb2.mono HB.o.size);have X0:=qh x0;have HB2:=qh hb02;have HRX:=qh hrx;have HLOW:=qh hlow;have hz2:=x0.lt;have hz3:=hb2.size;clear hrx hlow hb2 x0 hb02 k00 k10 k11 k12 K0 HX HV hkx;dsimp only;go_upto_region 2 with fail;have hal:Below w2.heap.size w2 (w2.alloc (.cells #[.bool false,.slice Ax nx cx,.slice Bx mx dx] 173)):=(Below.refl _ _).alloc ql _;refine wp_letter (fun wx=>Blk wx w.heap.size 118 [.int .u8 (lt:Int),.int .i64 (m:Int),.bool nt,.slice FA fn fc,.slice TA tn tc]∧Blk wx w2.heap.size 173 [.bool false,.slice Ax nx cx,.slice Bx mx dx]∧RQ4 wx false Ax nx cx Bx mx dx (kx:Int) q∧Below w.heap.size w wx) ⟨X0.o.alloc _,Blk.made _ 173 _ _ _ rfl rfl,HRX.o.bel hal,HB2.o.trans (hal.mono HB2.o.size)⟩ ?_;have hg5:w.heap.size+1<w2.heap.size:=by omega
 clear hal X0 HB2 HRX hz2 hz3;generalize w2.heap.size=g5 at *
 rintro wx ⟨x0,x1,x2,x3⟩;have X0:=qh x0;have X1:=qh x1;have HRX:=qh x2;have HBX:=qh x3;have hzx:=x1.lt;obtain ⟨-,k01⟩:=x0.c2;clear x0 x1 x2 x3 HB;obtain ⟨XV,hXV⟩:∃ XV,(if 0<m then P % (Q * m) else P)=XV:=⟨_,rfl⟩;have HXV:=qh hXV;clear hXV;go_upto_if 20 with fail;go_cut [] (fun wy=>Blk wy w.heap.size 118 [.int .u8 (lt:Int),.int .i64 (m:Int),.bool nt,.slice FA fn fc,.slice TA tn tc]∧XIs w g5 XV Q wy)
 case first =>
  by_cases hm0:0<m
  case neg =>
   have hmI:¬ (0:Int)<(m:Int):=by omega
   have HX2:Hid (XV=P):=by show _=_;rw [← HXV.o,if_neg hm0]
   clear hm0;go_wp2_with fail;go_meet
   rw [HX2.o];exact ⟨X0.o,_,_,_,_,_,_,_,_,_,X1.o,HRX.o,HLOW.o,HBX.o⟩
  have HX2:Hid (XV=P % (Q * m)):=by show _=_;rw [← HXV.o,if_pos hm0]
  have hmI:(0:Int)<(m:Int):=by omega
  have HM0:=qh hm0;clear hm0;go_wp2_with fail;refine (ref_QInt wx m (by omega)).mono ?_;rintro e w3 ⟨⟨bm,Am,nm,cm,Bm,mm,dm,rfl,hrm⟩,hb3⟩;obtain rfl:bm=false:=by rw [hrm.up.sign];simp
  have x0:=X0.o.below hb3 X0.o.lt;have x1:=X1.o.below hb3 X1.o.lt;have hrx:=HRX.o.bel hb3;have hbx:=HBX.o.trans (hb3.mono HBX.o.size);have Z0:=qh x0;have Z1:=qh x1;have HR1:=qh hrx;have HM1:=qh hrm;have HB1:=qh hbx;have hzy:=x1.lt;clear x0 x1 hrx hrm hbx hb3 X0 X1 HRX HBX k01;dsimp only;go_upto_region 4 with fail;have hal:Below w3.heap.size w3 (w3.alloc (.cells #[.bool false,.slice Am nm cm,.slice Bm mm dm] 173)):=(Below.refl _ _).alloc ql _;refine wp_letter (fun wy=>Blk wy w.heap.size 118 [.int .u8 (lt:Int),.int .i64 (m:Int),.bool nt,.slice FA fn fc,.slice TA tn tc]∧Blk wy g5 173 [.bool false,.slice Ax nx cx,.slice Bx mx dx]∧Blk wy w3.heap.size 173 [.bool false,.slice Am nm cm,.slice Bm mm dm]∧RQ4 wy false Ax nx cx Bx mx dx (kx:Int) q∧RQ4 wy false Am nm cm Bm mm dm (m:Int) 1∧Below w.heap.size w wy) ⟨Z0.o.alloc _,Z1.o.alloc _,Blk.made _ 173 _ _ _ rfl rfl,HR1.o.bel hal,HM1.o.bel hal,HB1.o.trans (hal.mono HB1.o.size)⟩ ?_;have hg7:g5<w3.heap.size:=hzy;clear hal Z0 Z1 HR1 HM1 HB1 hzy;generalize w3.heap.size=g7 at *
  rintro wy ⟨x0,x1,x2,x3,x4,x5⟩;have Z0:=qh x0;have Z1:=qh x1;have Z2:=qh x2;have HR1:=qh x3;have HM1:=qh x4;have HB1:=qh x5;have hzy:=x2.lt;clear x0 x1 x2 x3 x4 x5;have HKK:Hid (∀ w',Below wy.heap.size wy w'→w'.cell? ⟨g5,0,none⟩=some (.bool false)∧w'.cell? ⟨g5,1,none⟩=some (.slice Ax nx cx)∧w'.cell? ⟨g5,2,none⟩=some (.slice Bx mx dx)∧w'.cell? ⟨g7,0,none⟩=some (.bool false)∧w'.cell? ⟨g7,1,none⟩=some (.slice Am nm cm)∧w'.cell? ⟨g7,2,none⟩=some (.slice Bm mm dm)∧Below wy.heap.size wy w'):=fun w' h=>⟨(Z1.o.below h Z1.o.lt).cell 0,(Z1.o.below h Z1.o.lt).cell 1,(Z1.o.below h Z1.o.lt).cell 2,(Z2.o.below h Z2.o.lt).cell 0,(Z2.o.below h Z2.o.lt).cell 1,(Z2.o.below h Z2.o.lt).cell 2,h⟩;have hlq:=HLOW.o.le HQ0.o;have LX1:Hid ((d4 (kx:Int).natAbs).length≤5000):=Nat.le_trans (d4_len_le hlq.2) LP.o;have LX2:Hid ((d4 q).length≤5000):=Nat.le_trans (d4_len_le hlq.1) LQ.o;have LM:Hid ((d4 m).length≤3):=d4_len (by omega);have HQP:Hid (0<q):=HLOW.o.pos;clear hlq;go_cut [8] (fun s8 wz=>∃ (g p1 q1:Nat) (bz:Bool) (Az:Option Addr) (nz cz:Nat),s8=.pointer (some ⟨g,0,none⟩)∧Low (kx:Int) (q * m) (p1:Int) q1∧Blk wz g 171 [.bool bz,.slice Az nz cz]∧RZ4 wz bz Az nz cz ((p1 / q1:Nat):Int)∧wy.heap.size≤g∧Below wy.heap.size wy wz)
  case first =>
   go_region_held3 (fun w'=>w'.cell? ⟨g5,0,none⟩=some (.bool false)∧w'.cell? ⟨g5,1,none⟩=some (.slice Ax nx cx)∧w'.cell? ⟨g5,2,none⟩=some (.slice Bx mx dx)∧w'.cell? ⟨g7,0,none⟩=some (.bool false)∧w'.cell? ⟨g7,1,none⟩=some (.slice Am nm cm)∧w'.cell? ⟨g7,2,none⟩=some (.slice Bm mm dm)∧Below wy.heap.size wy w')
    (first|exact HKK.o _ (Below.refl _ _).drew|exact HKK.o _ ((Below.refl _ _).alloc ql _).drew|exact HKK.o _ (HBB6.o.alloc HBB6.o.size _)|exact HKK.o _ (HBB5.o.alloc HBB5.o.size _)|exact HKK.o _ (HBB4.o.alloc HBB4.o.size _)|exact HKK.o _ (below_set (below_set HBB6.o _ 0 (by first|exact ql|exact HBB4.o.size|exact HBB5.o.size|fail) _) _ 1 (by first|exact ql|exact HBB4.o.size|exact HBB5.o.size|fail) _)|exact HKK.o _ HBB6.o|exact HKK.o _ HBB5.o|exact HKK.o _ HBB4.o|(go_split_ands;exact HKK.o _ (Below.alloc ‹Below wy.heap.size wy _› (Below.size ‹Below wy.heap.size wy _›) _))|fail)
    (first|((with_reducible refine (ref_QInv _ false Am nm cm Bm mm dm (m:Int) 1 (HM1.o.below ?_ ql)).mono ?_);(go_split_ands;assumption);rintro e w4 ⟨⟨b4,A4,n4,c4,B4,m4,d4',rfl,hr4⟩,hb4⟩;(go_split_ands;have HBB4:=qh (Below.trans ‹Below wy.heap.size wy _› (hb4.mono (Below.size ‹Below wy.heap.size wy _›)))))|((with_reducible refine (ref_QMul _ false b4 Ax A4 Bx B4 nx cx n4 c4 mx dx m4 d4' (kx:Int) (signed false 1) q (m:Int).natAbs (HR1.o.below ?_ ql) ?_ HQP.o (by simpa using HM0.o) (le_of_le LX1.o) (le_of_le LX2.o) (by rw [(signed_form false 1).2];exact le_of_le (Nat.le_of_eq d4_one)) (by rw [Int.natAbs_natCast];exact le_of_le LM.o)).mono ?_);(go_split_ands;assumption);(first|exact hr4|exact hr4.bel ((Below.refl _ _).alloc ql _));rintro e w5 ⟨⟨p5,q1,⟨b5,A5,n5,c5,B5,m5,d5,rfl,hr5⟩,hl5⟩,hb5⟩;rw [signed_no,Int.natAbs_natCast] at hl5;have hl5':Low (kx:Int) (q * m) p5 q1:=(by simpa using hl5);obtain ⟨p1,rfl,-⟩:=hl5'.val (Nat.mul_pos HQP.o HM0.o);obtain rfl:b5=false:=(by rw [hr5.up.sign];simp);have HLE5:=qh (hl5'.le (Nat.mul_pos HQP.o HM0.o));(go_split_ands;have HBB5:=qh (Below.trans ‹Below wy.heap.size wy _› (hb5.mono (Below.size ‹Below wy.heap.size wy _›)))))|((with_reducible refine (ref_QFloor _ A5 B5 n5 c5 m5 d5 p1 q1 ?_ hl5.pos (le_of_le (Nat.le_trans (d4_len_le HLE5.o.2) LX1.o)) (le_of_le (Nat.le_trans (d4_len_le HLE5.o.1) (Nat.le_trans (d4_mul_len q m) (Nat.add_le_add LX2.o LM.o))))).mono ?_);(first|exact hr5|exact hr5.bel ((Below.refl _ _).alloc ql _));rintro e w6 ⟨⟨bz,Az,nz,cz,rfl,hr6⟩,hb6⟩;(first|have DZ:=qh (bb_ (bb_ (bb_newd hb4) hb5) hb6)|have DZ:=qh (bb_ (bb_new hb4) hb5)|have DZ:=qh (bb_ (bb_new hb5) hb6)|have DZ:=qh (bb_new hb6)|skip);(first|(have kz0:=DZ.o.cell 0;have kz1:=DZ.o.cell 1;have fz0:=DZ.o.frozen 0;have fz1:=DZ.o.frozen 1;simp only [M2,M3] at kz0 kz1)|skip);(go_split_ands;have HBB6:=qh (Below.trans ‹Below wy.heap.size wy _› (hb6.mono (Below.size ‹Below wy.heap.size wy _›)))))|fail)
   all_goals
    go_wp2_with fail;go_meet
    refine ⟨_,p1,q1,bz,Az,nz,cz,rfl,hl5',?_,?_,?_,?_⟩
    ·first|exact Blk.made _ _ _ _ _ rfl rfl|(have hf:=(DZ.o.put 0 (.bool bz)).put 1 (.slice Az nz cz);simpa only [M0,M1] using hf)
    ·first|exact hr6.bel ((Below.refl _ _).alloc ql _)|exact ⟨hr6.sign,hr6.d4.put2 DZ.o (noI_z _ _ _ _) _ _⟩
    ·first|exact ql|exact HBB4.o.size|exact HBB5.o.size|exact HBB6.o.size
    ·first|exact HBB6.o.alloc HBB6.o.size _|exact below_set (below_set HBB6.o _ 0 (by first|exact ql|exact HBB4.o.size|exact HBB5.o.size|fail) _) _ 1 (by first|exact ql|exact HBB4.o.size|exact HBB5.o.size|fail) _
  case rest =>
   obtain ⟨g8,p1,q1,bz,Az,nz,cz,rfl,hl1,x3,hrz,hge,hbz⟩:=hcut;have x0:=Z0.o.below hbz Z0.o.lt;have x1:=Z1.o.below hbz Z1.o.lt;have x2:=Z2.o.below hbz Z2.o.lt;have Y0:=qh x0;have Y1:=qh x1;have Y2:=qh x2;have Y3:=qh x3;have HXc:=qh (HR1.o.bel hbz);have HMc:=qh (HM1.o.bel hbz);have HZc:=qh hrz;have HL1:=qh hl1;have HBc:=qt HB1 hbz
   have LZ:Hid ((d4 (((p1 / q1:Nat):Int)).natAbs).length≤5000):=by
    have h1:=(hl1.le (Nat.mul_pos HQP.o HM0.o)).2;show _≤_;rw [Int.natAbs_natCast];refine Nat.le_trans (d4_len_le (Nat.le_trans (Nat.div_le_self _ _) ?_)) LX1.o;simpa using h1
   have hz0:=x0.lt;have hz1:=x1.lt;clear x0 x1 x2 x3 hl1 hrz hbz Z0 Z1 Z2 HR1 HM1 HB1 HKK hge;have HF:Hid (∀ w',Below wc.heap.size wc w'→w'.cell? ⟨g5,0,none⟩=some (.bool false)∧w'.cell? ⟨g5,1,none⟩=some (.slice Ax nx cx)∧w'.cell? ⟨g5,2,none⟩=some (.slice Bx mx dx)∧w'.cell? ⟨g7,0,none⟩=some (.bool false)∧w'.cell? ⟨g7,1,none⟩=some (.slice Am nm cm)∧w'.cell? ⟨g7,2,none⟩=some (.slice Bm mm dm)∧w'.cell? ⟨g8,0,none⟩=some (.bool bz)∧w'.cell? ⟨g8,1,none⟩=some (.slice Az nz cz)):=fun w' h=>⟨(Y1.o.below h Y1.o.lt).cell 0,(Y1.o.below h Y1.o.lt).cell 1,(Y1.o.below h Y1.o.lt).cell 2,(Y2.o.below h Y2.o.lt).cell 0,(Y2.o.below h Y2.o.lt).cell 1,(Y2.o.below h Y2.o.lt).cell 2,(Y3.o.below h Y3.o.lt).cell 0,(Y3.o.below h Y3.o.lt).cell 1⟩;go_step;go_upto_region 5 with fail;refine wp_region_but (fun w'=>Below wc.heap.size wc w') (by kernel_rfl) (by kernel_rfl) (Below.refl _ _).drew (fun hHeld=>?_);simp only [initL,lastL];have HB10:=qh hHeld;refine takeA (i:=0) ?_
   try simp only [Act.put,MT,M0,M1]
   refine takeA (i:=1) ?_
   try simp only [Act.put,MT,M0,M1]
   refine takeA (i:=2) ?_
   try simp only [Act.put,MT,M0,M1]
   refine wpAnyH_ready (rs:=[3]) (by kernel_rfl) (by simp) ?_;refine consL rfl (fun K hK=>?_) AllReadyH.nil;go_simp;refine (ref_Small1 _).mono ?_;rintro e w11 ⟨⟨A11,n11,c11,rfl,r⟩,hb⟩;have HB11:=qh (below_on HB10.o ql hb);have R11:=qh r;clear r hb;dsimp only
   try clear hHeld
   refine hK.out _ _ (HB11.o) (fun hHeld=>?_);clear hK K
   try simp only [Act.put,MT,M0,M1]
   refine takeA (i:=4) ?_
   try simp only [Act.put,MT,M0,M1]
   refine wpAnyH_ready (rs:=[5]) (by kernel_rfl) (by simp) ?_;refine consL rfl (fun K hK=>?_) AllReadyH.nil;go_simp;refine (ref_QMul _ false bz Am Az Bm A11 nm cm nz cz mm dm n11 c11 (m:Int) ((p1 / q1:Nat):Int) 1 1 (HMc.o.below HB11.o ql) ⟨HZc.o.below HB11.o ql,R11.o⟩ Nat.zero_lt_one Nat.zero_lt_one (by rw [Int.natAbs_natCast];exact le_of_le LM.o) (le_of_le (Nat.le_of_eq d4_one)) (le_of_le LZ.o) (le_of_le (Nat.le_of_eq d4_one))).mono ?_;rintro e w12 ⟨⟨p12,q12,⟨b12,A12,n12,c12,B12,m12,d12,rfl,r⟩,hl⟩,hb⟩;have HB12:=qh (below_on HB11.o ql hb);have R12:=qh r;obtain ⟨hq12,hp12⟩:=Low.of_int (X:=(m:Int) * ((p1 / q1:Nat):Int)) (p:=p12) (q:=q12) hl;subst hq12;subst hp12;clear hl;clear r hb;dsimp only
   try clear hHeld
   refine hK.out _ _ (HB12.o) (fun hHeld=>?_);clear hK K
   try simp only [Act.put,MT,M0,M1]
   refine wpAnyH_ready (rs:=[6]) (by kernel_rfl) (by simp) ?_;refine consL rfl (fun K hK=>?_) AllReadyH.nil;go_simp;refine (ref_QNeg _ b12 A12 n12 c12 B12 m12 d12 _ _ R12.o).mono ?_;rintro e w13 ⟨⟨b13,A13,n13,c13,B13,m13,d13,rfl,r⟩,hb⟩;have HB13:=qh (below_on HB12.o ql hb);have R13:=qh r;clear r hb;dsimp only
   try clear hHeld
   refine hK.out _ _ (HB13.o) (fun hHeld=>?_);clear hK K
   try simp only [Act.put,MT,M0,M1]
   refine wpAnyH_ready (rs:=[7]) (by kernel_rfl) (by simp) ?_;refine consL rfl (fun K hK=>?_) AllReadyH.nil;go_simp;refine (ref_QAdd _ false b13 Ax A13 Bx B13 nx cx n13 c13 mx dx m13 d13 (kx:Int) _ q 1 (HXc.o.below HB13.o ql) R13.o HQP.o Nat.zero_lt_one (le_of_le LX1.o) (le_of_le LX2.o) (by rw [Int.natAbs_neg];refine le_of_le (d4_zmul_len (n:=3) (m:=5000) ?_ LZ.o);rw [Int.natAbs_natCast];exact LM.o) (le_of_le (Nat.le_of_eq d4_one))).mono ?_;rintro e w14 ⟨⟨p14,q14,⟨b14,A14,n14,c14,B14,m14,d14,rfl,r⟩,hl⟩,hb⟩;have HB14:=qh (below_on HB13.o ql hb);have R14:=qh r;have HL14:=qh hl;clear hl;clear r hb;dsimp only
   try clear hHeld
   refine hK.out _ _ (HB14.o) (fun hHeld=>?_);clear hK K
   try simp only [Act.put,MT,M0,M1]
   refine wpAnyH_done (by kernel_rfl) ?_ _;clear hHeld;have y1:=Y1.o.below HB14.o Y1.o.lt;have V1:=qh y1;obtain ⟨q0,q1',q2,f0,f1,f2⟩:=y1.cf3;clear y1;unfold TailQ;go_wp2_with fail;go_meet
   have hf:=((V1.o.put 0 (.bool b14)).put 1 (.slice A14 n14 c14)).put 2 (.slice B14 m14 d14);simp only [M0,M1] at hf;have v0:=(((Y0.o.below HB14.o Y0.o.lt).far ⟨g5,0,none⟩ (.bool b14) (by simp;omega)).far ⟨g5,1,none⟩ (.slice A14 n14 c14) (by simp;omega)).far ⟨g5,2,none⟩ (.slice B14 m14 d14) (by simp;omega);have hs:=R14.o.up.d4.put3 V1.o (noI_q _ _ _ _ _ _ _) (.bool b14) (.slice A14 n14 c14) (.slice B14 m14 d14);have hs2:=R14.o.down.put3 V1.o (noI_q _ _ _ _ _ _ _) (.bool b14) (.slice A14 n14 c14) (.slice B14 m14 d14);have hb5:=below_set (below_set (below_set (HBc.o.trans (HB14.o.mono HBc.o.size)) g5 0 (by omega) (.bool b14)) g5 1 (by omega) (.slice A14 n14 c14)) g5 2 (by omega) (.slice B14 m14 d14);refine ⟨v0,_,_,_,_,_,_,_,_,_,hf,⟨⟨R14.o.up.sign,hs⟩,hs2⟩,?_,hb5⟩;rw [HX2.o];refine low_mod HQ0.o HM0.o HLOW.o (p1:=(p1:Int)) (q1:=q1) (by simpa using HL1.o) ?_;have h3:=HL14.o;rw [Int.natCast_ediv] at h3;exact h3
 case rest =>
  obtain ⟨x0,b3,A3,n3,c3,B3,m3,d3,p3,q3,x1,hr3,hlow3,hbc⟩:=hcut;obtain ⟨k3,rfl,hk3⟩:=hlow3.val HQ0.o;obtain rfl:b3=false:=by rw [hr3.up.sign];simp
  have hle3:=hlow3.le HQ0.o
  have hxp:XV≤P:=by
   rw [← HXV.o];split
   ·exact Nat.mod_le _ _
   ·exact ql
  have LK3:Hid ((d4 (k3:Int).natAbs).length≤20000):=by
   refine le_of_le (Nat.le_trans (d4_len_le ?_) LP.o);have:=hle3.2;simp only [Int.natAbs_natCast] at this ⊢;omega
  have LQ3:Hid ((d4 q3).length≤20000):=le_of_le (Nat.le_trans (d4_len_le hle3.1) LQ.o);have HQ3:=qh hlow3.pos;have HONE:=qh (hlow3.one HQ0.o);have HYX:Hid (Y=((decide (XV % Q=0) && anyE XV Q (fs.zip ts)) != nt)):=by show _=_;rw [← HY.o,← HXV.o];rfl
  have X0:=qh x0;have X1:=qh x1;have HR3:=qh hr3;have HLOW3:=qh hlow3;have HBC:=qh hbc;have hz0:=x0.lt;have hz1:=x1.lt;have hfn:=HFI.o.len;have htn:=HTI.o.len;rw [hfl] at hfn;rw [htl] at htn;obtain ⟨N,hN⟩:∃ N,L.length=N:=⟨_,rfl⟩;rw [hN] at hfn htn hL0 hlen hfl htl;have HZL:Hid ((fs.zip ts).length≤N):=by show _≤_;rw [List.length_zip];omega
  subst hfn;have htn':=htn.symm;subst htn';have HFL:=qh hfl;have HTL:=qh htl;have hNI:(fn:Int)≤1000:=by omega
  clear x0 x1 hr3 hlow3 hbc hk3 hle3 hxp hfl htl hN HY HXV HLOW HBX HRX;go_step;go_wp2_with fail;go_loopw [9,10] (fun s9 s10 wr=>∃ kk:Nat,kk≤fn∧s10=.int .i64 (kk:Int)∧s9=.bool (anyE XV Q ((fs.zip ts).take kk))∧(q3=1∨kk=0)∧Below wc.heap.size wc wr) (fun _ i _=>fn - (intOf i).toNat)
  case atStart=>exact ⟨0,Nat.zero_le _,rfl,rfl,.inr rfl,Below.refl _ _⟩
  case round =>
   obtain ⟨kk,hk,rfl,rfl,hqk,hbr⟩:=hrel;have HBR:=qh hbr;obtain ⟨-,-,i2,i3⟩:=(X0.o.below hbr X0.o.lt).c4;obtain ⟨-,-,j2⟩:=(X1.o.below hbr X1.o.lt).c3;have HBW:=qt HBC hbr;clear hbr;by_cases hlt:kk<fn
   case neg =>
    have hkI:¬ (kk:Int)<(fn:Int):=by omega
    have hfin:Y=(anyE XV Q ((fs.zip ts).take kk) != nt):=by
     rw [HYX.o,List.take_of_length_le (by have:=HZL.o;omega)];rcases hqk with h|h
     ·rw [decide_eq_true (HONE.o.1 h),Bool.true_and]
     ·omega
    have HFIN:=qh hfin;clear hfin hqk;go_wp2_with fail;go_ret
    exact ⟨by rw [HFIN.o];rfl,HBW.o⟩
   have hkI:(kk:Int)<(fn:Int):=by omega
   obtain ⟨tx,htx⟩:∃ tx,Lib.decDigits q3=tx:=⟨_,rfl⟩;have htb:=one_text q3;rw [htx] at htb;have HTX0:=qh htx;by_cases hq1:q3=1
   case neg =>
    rw [decide_eq_false hq1] at htb;obtain rfl:kk=0:=by rcases hqk with h|h;exact absurd h hq1;exact h
    have hfin:Y=(anyE XV Q ((fs.zip ts).take 0) != nt):=by
     rw [HYX.o,decide_eq_false (fun h=>hq1 (HONE.o.2 h)),Bool.false_and]
     rfl
    have HFIN:=qh hfin;clear hfin hqk htx hq1;go_wp2_with fail;refine (ref_Text wr B3 m3 d3 q3 (HR3.o.down.below HBR.o ql) (le_of_le LQ3.o)).mono ?_;rw [HTX0.o];rintro e w4 ⟨rfl,hb4⟩;have HB4:=qt HBW hb4;clear i2;obtain ⟨-,-,i2⟩:=(X0.o.below (HBR.o.trans (hb4.mono HBR.o.size)) X0.o.lt).c3;clear hb4;dsimp only;go_wp2_with fail;go_ret
    exact ⟨by rw [HFIN.o];rfl,HB4.o⟩
   rw [decide_eq_true hq1] at htb;clear hqk htx;go_wp2_with fail;refine (ref_Text wr B3 m3 d3 q3 (HR3.o.down.below HBR.o ql) (le_of_le LQ3.o)).mono ?_;rw [HTX0.o];rintro e w4 ⟨rfl,hb4⟩;have HB4:=qt HBR hb4;clear hb4 i2 i3 j2 HBR HBW;dsimp only;obtain ⟨fb,fo,hfa,hfc⟩:=IL.at (HFI.o.below (HBC.o.trans (HB4.o.mono HBC.o.size)) ql) (by have:=HFL.o;omega);obtain ⟨tb,tq,hta,htc⟩:=IL.at (HTI.o.below (HBC.o.trans (HB4.o.mono HBC.o.size)) ql) (by have:=HTL.o;omega);subst hfa;subst hta;obtain ⟨f,hf⟩:∃ f,fs[kk]?=some f:=⟨fs[kk]'(by have:=HFL.o;omega),List.getElem?_eq_getElem _⟩;obtain ⟨t',ht'⟩:∃ t,ts[kk]?=some t:=⟨ts[kk]'(by have:=HTL.o;omega),List.getElem?_eq_getElem _⟩;have cf:=hfc kk f hf;have ct:=htc kk t' ht';have HTX:=qh (anyE_next (P:=XV) (q:=Q) hf ht');have hfl2:=HFB.o f (List.mem_of_getElem? hf);have htl2:=HTB.o t' (List.mem_of_getElem? ht');have CF:=qh cf;have CT:=qh ct;have HBR:=HB4
   have HF:Hid (∀ w',Below w4.heap.size w4 w'→w'.cell? ⟨g5,0,none⟩=some (.bool false)∧w'.cell? ⟨g5,1,none⟩=some (.slice A3 n3 c3)∧w'.cell? ⟨g5,2,none⟩=some (.slice B3 m3 d3)∧w'.cell? ⟨w.heap.size,3,none⟩=some (.slice (some ⟨fb,fo,none⟩) fn fc)∧w'.cell? ⟨w.heap.size,4,none⟩=some (.slice (some ⟨tb,tq,none⟩) fn tc)∧w'.cell? ⟨fb,fo+kk,none⟩=some (.int .i64 (f:Int))∧w'.cell? ⟨tb,tq+kk,none⟩=some (.int .i64 (t':Int))):=by
    intro w' h;have e0:=X0.o.below (HB4.o.trans (h.mono HB4.o.size)) X0.o.lt;have e1:=X1.o.below (HB4.o.trans (h.mono HB4.o.size)) X1.o.lt;exact ⟨e1.cell 0,e1.cell 1,e1.cell 2,e0.cell 3,e0.cell 4,(h.cell (World.block_lt_of_cell? w4 _ CF.o)).trans CF.o,(h.cell (World.block_lt_of_cell? w4 _ CT.o)).trans CT.o⟩
   clear hfc htc hf ht' ct cf;have hk0:(0:Int)≤(kk:Int):=by omega
   by_cases hin:anyE XV Q ((fs.zip ts).take kk)=true
   ·rw [hin];have HIN:=qh hin;clear hin;go_upto_region 10 with fail;refine wp_region_held_drew (S:=fun w'=>Below w4.heap.size w4 w') (by kernel_rfl) (Below.refl _ _).drew (fun hHeld=>?_);refine wpAnyH_letter (fun w'=>Below w4.heap.size w4 w') hHeld ?_;rintro w6 hb6;have HB6:=qh hb6;clear hb6 hHeld;have hHeld:=HB6.o;refine takeA (i:=0) ?_
    try simp only [Act.put,MT,M0,M1]
    refine takeA (i:=1) ?_
    try simp only [Act.put,MT,M0,M1]
    refine takeN (i:=2) ?_
    try simp only [Act.put,MT,M0,M1]
    refine takeN (i:=3) ?_
    try simp only [Act.put,MT,M0,M1]
    refine takeN (i:=4) ?_
    try simp only [Act.put,MT,M0,M1]
    refine takeN (i:=5) ?_
    try simp only [Act.put,MT,M0,M1]
    refine takeN (i:=6) ?_
    try simp only [Act.put,MT,M0,M1]
    refine takeN (i:=7) ?_
    try simp only [Act.put,MT,M0,M1]
    refine takeN (i:=8) ?_
    try simp only [Act.put,MT,M0,M1]
    refine takeN (i:=9) ?_
    try simp only [Act.put,MT,M0,M1]
    refine takeN (i:=10) ?_
    try simp only [Act.put,MT,M0,M1]
    refine takeN (i:=11) ?_
    try simp only [Act.put,MT,M0,M1]
    refine takeN (i:=12) ?_
    try simp only [Act.put,MT,M0,M1]
    refine takeN (i:=13) ?_
    try simp only [Act.put,MT,M0,M1]
    refine takeN (i:=14) ?_
    try simp only [Act.put,MT,M0,M1]
    refine takeN (i:=15) ?_
    try simp only [Act.put,MT,M0,M1]
    refine takeN (i:=16) ?_
    try simp only [Act.put,MT,M0,M1]
    refine takeN (i:=17) ?_
    try simp only [Act.put,MT,M0,M1]
    refine takeN (i:=18) ?_
    try simp only [Act.put,MT,M0,M1]
    refine takeN (i:=19) ?_
    try simp only [Act.put,MT,M0,M1]
    refine takeN (i:=20) ?_
    try simp only [Act.put,MT,M0,M1]
    refine takeN (i:=21) ?_
    try simp only [Act.put,MT,M0,M1]
    refine takeA (i:=22) ?_
    try simp only [Act.put,MT,M0,M1]
    refine takeA (i:=23) ?_
    try simp only [Act.put,MT,M0,M1]
    refine wpAnyH_done (by kernel_rfl) ?_ _;have HBZ:=qh (HBR.o.trans (HB6.o.mono HBR.o.size));clear hHeld;go_wp2_with fail;go_roundw
    case rel =>
     refine ⟨kk+1,by omega,by go_num,?_,.inl hq1,HBZ.o⟩;rw [HTX.o,HIN.o];rfl
    case measure=>simp [intOf];omega
   have hin':anyE XV Q ((fs.zip ts).take kk)=false:=by simpa using hin
   rw [hin'];have HIN:=qh hin';clear hin hin';by_cases hc1:f * Q≤XV
   ·have HC1:=qh hc1;clear hc1;go_upto_region 10 with fail;refine wp_region_held_drew (S:=fun w'=>Below w4.heap.size w4 w') (by kernel_rfl) (Below.refl _ _).drew (fun hHeld=>?_);refine wpAnyH_letter (fun w'=>Below w4.heap.size w4 w') hHeld ?_;rintro w6 hb6;have HB6:=qh hb6;clear hb6 hHeld;have hHeld:=HB6.o;refine takeA (i:=0) ?_
    try simp only [Act.put,MT,M0,M1]
    refine takeA (i:=1) ?_
    try simp only [Act.put,MT,M0,M1]
    refine takeA (i:=2) ?_
    try simp only [Act.put,MT,M0,M1]
    refine takeA (i:=3) ?_
    try simp only [Act.put,MT,M0,M1]
    refine takeA (i:=4) ?_
    try simp only [Act.put,MT,M0,M1]
    refine takeA (i:=5) ?_
    try simp only [Act.put,MT,M0,M1]
    refine takeA (i:=6) ?_
    try simp only [Act.put,MT,M0,M1]
    refine takeA (i:=7) ?_
    try simp only [Act.put,MT,M0,M1]
    refine wpAnyH_ready (rs:=[8]) (by kernel_rfl) (by simp) ?_;refine consL rfl (fun K hK=>?_) AllReadyH.nil;go_simp;refine (ref_QInt _ f (by omega)).mono ?_;rintro e w161 ⟨⟨b61,A61,n61,c61,B61,m61,d61,rfl,r⟩,hb⟩;have HB61:=qh (below_on HB6.o ql hb);have RI61:=qh r;clear r hb;dsimp only
    try clear hHeld
    refine hK.out _ _ (HB61.o) (fun hHeld=>?_);clear hK K
    try simp only [Act.put,MT,M0,M1]
    refine wpAnyH_ready (rs:=[9]) (by kernel_rfl) (by simp) ?_;refine consL rfl (fun K hK=>?_) AllReadyH.nil;go_simp;refine (ref_QCmp _ false b61 A3 A61 B3 B61 n3 c3 n61 c61 m3 d3 m61 d61 (k3:Int) (f:Int) q3 1 (HR3.o.below (HBR.o.trans (HB61.o.mono HBR.o.size)) ql) RI61.o HQ3.o Nat.zero_lt_one LK3.o LQ3.o (by rw [Int.natAbs_natCast];exact le_of_le (d4_len (n:=3) (by omega))) (le_of_le (Nat.le_of_eq d4_one))).mono ?_;rintro e w162 ⟨rfl,hb⟩;have HB62:=qh (below_on HB61.o ql hb);have hs62:=sign_ge HQ0.o HLOW3.o f;rw [decide_eq_true HC1.o] at hs62;generalize ((k3:Int) * ((1:Nat):Int) - (f:Int) * (q3:Int)).sign=z62 at *
    clear hb;dsimp only
    try clear hHeld
    refine hK.out _ _ (HB62.o) (fun hHeld=>?_);clear hK K
    try simp only [Act.put,MT,M0,M1]
    refine takeA (i:=10) ?_
    try simp only [Act.put,MT,M0,M1]
    refine takeA (i:=11) ?_
    try simp only [Act.put,MT,M0,M1]
    refine takeA (i:=12) ?_
    try simp only [Act.put,MT,M0,M1]
    refine takeA (i:=13) ?_
    try simp only [Act.put,MT,M0,M1]
    refine takeA (i:=14) ?_
    try simp only [Act.put,MT,M0,M1]
    refine takeA (i:=15) ?_
    try simp only [Act.put,MT,M0,M1]
    refine takeA (i:=16) ?_
    try simp only [Act.put,MT,M0,M1]
    refine takeA (i:=17) ?_
    try simp only [Act.put,MT,M0,M1]
    refine wpAnyH_ready (rs:=[18]) (by kernel_rfl) (by simp) ?_;refine consL rfl (fun K hK=>?_) AllReadyH.nil;go_simp;refine (ref_QInt _ t' (by omega)).mono ?_;rintro e w171 ⟨⟨b71,A71,n71,c71,B71,m71,d71,rfl,r⟩,hb⟩;have HB71:=qh (below_on HB62.o ql hb);have RI71:=qh r;clear r hb;dsimp only
    try clear hHeld
    refine hK.out _ _ (HB71.o) (fun hHeld=>?_);clear hK K
    try simp only [Act.put,MT,M0,M1]
    refine wpAnyH_ready (rs:=[19]) (by kernel_rfl) (by simp) ?_;refine consL rfl (fun K hK=>?_) AllReadyH.nil;go_simp;refine (ref_QCmp _ false b71 A3 A71 B3 B71 n3 c3 n71 c71 m3 d3 m71 d71 (k3:Int) (t':Int) q3 1 (HR3.o.below (HBR.o.trans (HB71.o.mono HBR.o.size)) ql) RI71.o HQ3.o Nat.zero_lt_one LK3.o LQ3.o (by rw [Int.natAbs_natCast];exact le_of_le (d4_len (n:=3) (by omega))) (le_of_le (Nat.le_of_eq d4_one))).mono ?_;rintro e w172 ⟨rfl,hb⟩;have HB72:=qh (below_on HB71.o ql hb);have hs72:=sign_lo HQ0.o HLOW3.o t';generalize ((k3:Int) * ((1:Nat):Int) - (t':Int) * (q3:Int)).sign=z72 at *
    clear hb;dsimp only
    try clear hHeld
    refine hK.out _ _ (HB72.o) (fun hHeld=>?_);clear hK K
    try simp only [Act.put,MT,M0,M1]
    refine takeA (i:=20) ?_
    try simp only [Act.put,MT,M0,M1]
    refine takeA (i:=21) ?_
    try simp only [Act.put,MT,M0,M1]
    refine takeA (i:=22) ?_
    try simp only [Act.put,MT,M0,M1]
    refine takeA (i:=23) ?_
    try simp only [Act.put,MT,M0,M1]
    refine wpAnyH_done (by kernel_rfl) ?_ _;have HBZ:=qh (HBR.o.trans (HB72.o.mono HBR.o.size));clear hHeld;go_wp2_with fail;go_roundw
    case rel =>
     refine ⟨kk+1,by omega,by go_num,?_,.inl hq1,HBZ.o⟩;rw [HTX.o,HIN.o,decide_eq_true HC1.o];simp
    case measure=>simp [intOf];omega
   ·have HC1:=qh hc1;clear hc1;go_upto_region 10 with fail;refine wp_region_held_drew (S:=fun w'=>Below w4.heap.size w4 w') (by kernel_rfl) (Below.refl _ _).drew (fun hHeld=>?_);refine wpAnyH_letter (fun w'=>Below w4.heap.size w4 w') hHeld ?_;rintro w6 hb6;have HB6:=qh hb6;clear hb6 hHeld;have hHeld:=HB6.o;refine takeA (i:=0) ?_
    try simp only [Act.put,MT,M0,M1]
    refine takeA (i:=1) ?_
    try simp only [Act.put,MT,M0,M1]
    refine takeA (i:=2) ?_
    try simp only [Act.put,MT,M0,M1]
    refine takeA (i:=3) ?_
    try simp only [Act.put,MT,M0,M1]
    refine takeA (i:=4) ?_
    try simp only [Act.put,MT,M0,M1]
    refine takeA (i:=5) ?_
    try simp only [Act.put,MT,M0,M1]
    refine takeA (i:=6) ?_
    try simp only [Act.put,MT,M0,M1]
    refine takeA (i:=7) ?_
    try simp only [Act.put,MT,M0,M1]
    refine wpAnyH_ready (rs:=[8]) (by kernel_rfl) (by simp) ?_;refine consL rfl (fun K hK=>?_) AllReadyH.nil;go_simp;refine (ref_QInt _ f (by omega)).mono ?_;rintro e w137 ⟨⟨b37,A37,n37,c37,B37,m37,d37,rfl,r⟩,hb⟩;have HB37:=qh (below_on HB6.o ql hb);have RI37:=qh r;clear r hb;dsimp only
    try clear hHeld
    refine hK.out _ _ (HB37.o) (fun hHeld=>?_);clear hK K
    try simp only [Act.put,MT,M0,M1]
    refine wpAnyH_ready (rs:=[9]) (by kernel_rfl) (by simp) ?_;refine consL rfl (fun K hK=>?_) AllReadyH.nil;go_simp;refine (ref_QCmp _ false b37 A3 A37 B3 B37 n3 c3 n37 c37 m3 d3 m37 d37 (k3:Int) (f:Int) q3 1 (HR3.o.below (HBR.o.trans (HB37.o.mono HBR.o.size)) ql) RI37.o HQ3.o Nat.zero_lt_one LK3.o LQ3.o (by rw [Int.natAbs_natCast];exact le_of_le (d4_len (n:=3) (by omega))) (le_of_le (Nat.le_of_eq d4_one))).mono ?_;rintro e w138 ⟨rfl,hb⟩;have HB38:=qh (below_on HB37.o ql hb);have hs38:=sign_ge HQ0.o HLOW3.o f;rw [decide_eq_false HC1.o] at hs38;generalize ((k3:Int) * ((1:Nat):Int) - (f:Int) * (q3:Int)).sign=z38 at *
    clear hb;dsimp only
    try clear hHeld
    refine hK.out _ _ (HB38.o) (fun hHeld=>?_);clear hK K
    try simp only [Act.put,MT,M0,M1]
    refine takeA (i:=10) ?_
    try simp only [Act.put,MT,M0,M1]
    refine takeA (i:=11) ?_
    try simp only [Act.put,MT,M0,M1]
    refine takeN (i:=12) ?_
    try simp only [Act.put,MT,M0,M1]
    refine takeN (i:=13) ?_
    try simp only [Act.put,MT,M0,M1]
    refine takeN (i:=14) ?_
    try simp only [Act.put,MT,M0,M1]
    refine takeN (i:=15) ?_
    try simp only [Act.put,MT,M0,M1]
    refine takeN (i:=16) ?_
    try simp only [Act.put,MT,M0,M1]
    refine takeN (i:=17) ?_
    try simp only [Act.put,MT,M0,M1]
    refine takeN (i:=18) ?_
    try simp only [Act.put,MT,M0,M1]
    refine takeN (i:=19) ?_
    try simp only [Act.put,MT,M0,M1]
    refine takeN (i:=20) ?_
    try simp only [Act.put,MT,M0,M1]
    refine takeA (i:=21) ?_
    try simp only [Act.put,MT,M0,M1]
    refine takeA (i:=22) ?_
    try simp only [Act.put,MT,M0,M1]
    refine takeA (i:=23) ?_
    try simp only [Act.put,MT,M0,M1]
    refine wpAnyH_done (by kernel_rfl) ?_ _;have HBZ:=qh (HBR.o.trans (HB38.o.mono HBR.o.size));clear hHeld;go_wp2_with fail;go_roundw
    case rel =>
     refine ⟨kk+1,by omega,by go_num,?_,.inl hq1,HBZ.o⟩;rw [HTX.o,HIN.o,decide_eq_false HC1.o];rfl
    case measure=>simp [intOf];omega
end Go.Proofs.YtdgleeglndcjhaaGreatDoor
