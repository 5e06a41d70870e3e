import Derived.Test.YtdgleeglndcjhaaGreatDoorW22
set_option linter.unusedSimpArgs false
set_option linter.unusedVariables false
set_option maxHeartbeats 16000000
set_option maxRecDepth 100000
namespace Go.Proofs.YtdgleeglndcjhaaGreatDoor
open Go.RowKit
theorem oper_OfS (w:World) (b:Bool) (A:Option Addr) (n c k s m:Nat) (hG:GW w) (h:SN w A n c k) (hs:s≤60) (hb:b=true→0<k) (hk:k<2 ^ m) (hm:200≤m) (hm2:m≤40000) :
  Calls Tryz.prog 15 #[.agg #[.bool b,.slice A n c,.int .i64 (s:Nat)]] w fun e w'=>OfR e w' k s m∧Below w.heap.size w w':=by
 have hg:=goodD_sn hs hb
 have e1:decK b (wordsOf k) (s:Nat)=k:=by unfold decK;rw [if_pos hg,val_wordsOf]
 have e2:decS b (wordsOf k) (s:Nat)=s:=by unfold decS;rw [if_pos hg];simp
 have:=oper_Of w b A n c (wordsOf k) (s:Nat) m hG h (big_pow hk (by omega)) (by rw [e1];exact hk) hm hm2
 rw [e1,e2] at this
 exact this
set_option exponentiation.threshold 5000 in
theorem parseD_cases (s:Bs):(∃ b k sc,parseD s=(0,b,k,sc)∧sc≤60∧(b=true→0<k)∧k<2 ^ (4 * 512))∨∃ e,parseD s=(e,false,0,0)∧(e=2∨e=11):=by
 unfold parseD
 split
 ·exact .inr ⟨11,rfl,.inr rfl⟩
 ·rename_i h
  dsimp only
  split
  ·rename_i h2
   refine .inl ⟨_,_,_,rfl,h2.2.2.2,fun hb=>?_,?_⟩
   ·simp at hb;omega
   ·have h1:=cut_len (Lib.trimPrefix s [45]) [46]
    have h3:(Lib.trimPrefix s [45]).length≤s.length:=by unfold Lib.trimPrefix;split <;> simp
    exact Nat.lt_of_lt_of_le (nval_lt _) (Nat.pow_le_pow_right (by omega) (by rw [List.length_append];omega))
  ·exact .inr ⟨2,rfl,.inl rfl⟩
def holdsP (r d:Bs):Bool:=(parseR r).1 == 0 && ((parseD d).1 == 0 && holdsV (ofVal (parseD d).2.2.1 (parseD d).2.2.2) (parseR r).2)
theorem law_holds (w:World) (r d:Bs) (hG:GW w) :
  Calls Tryz.prog 20 #[.string ⟨r.toArray⟩,.string ⟨d.toArray⟩] w fun e w'=>e=.returned (.bool (holdsP r d))∧Below w.heap.size w w':=by
 have HG:=qh hG
 have HH:Hid (holdsP r d=((parseR r).1 == 0 && ((parseD d).1 == 0 && holdsV (ofVal (parseD d).2.2.1 (parseD d).2.2.2) (parseR r).2))):=rfl
 have HSm:Hid (SmallR (parseR r).2):=by
  rcases parseR_cases r with ⟨x,h1,h2⟩|⟨e,h1,-⟩
  ·rw [h1];exact h2
  ·rw [h1];exact smallR_nil
 clear hG
 go_enter Tryz.func20,Tryz.ntmps20
 go_wp2_with fail
 refine (rule_Parse w ⟨r.toArray⟩ HG.out).mono ?_
 rw [show (⟨r.toArray⟩:ByteArray).data.toList=r from rfl]
 rintro e w2 ⟨RA,rn,rc,rfl,hr,hb2⟩
 have R2:=qh (RuleIs.below hr.is ((Below.refl w2.heap.size w2).alloc ql (.cells #[.slice RA rn rc] 30)) ql)
 have E2:=qh (Blk.made w2 30 [.slice RA rn rc] w2.heap.size #[.slice RA rn rc] rfl rfl)
 have HB2:=qh (hb2.alloc hb2.size (.cells #[.slice RA rn rc] 30))
 clear hr hb2
 dsimp only
 go_wp2_with fail
 refine (dec_Parse _ d (HG.out.below HB2.out ql)).mono ?_
 rintro e w3 ⟨⟨A,n,c,rfl,hx⟩,hb3⟩
 have R3:=qh ((R2.out.below hb3 ql).below ((Below.refl w3.heap.size w3).alloc ql (.cells #[.bool (parseD d).2.1,.slice A n c,.int .i64 ((parseD d).2.2.2:Nat)] 26)) ql)
 have X3:=qh (hx.below ((Below.refl w3.heap.size w3).alloc ql (.cells #[.bool (parseD d).2.1,.slice A n c,.int .i64 ((parseD d).2.2.2:Nat)] 26)) ql)
 have E3:=qh ((E2.out.below hb3 E2.out.lt).alloc (.cells #[.bool (parseD d).2.1,.slice A n c,.int .i64 ((parseD d).2.2.2:Nat)] 26))
 have F3:=qh (Blk.made w3 26 [.bool (parseD d).2.1,.slice A n c,.int .i64 ((parseD d).2.2.2:Nat)] w3.heap.size #[.bool (parseD d).2.1,.slice A n c,.int .i64 ((parseD d).2.2.2:Nat)] rfl rfl)
 have HB3:=qh ((HB2.out.trans (hb3.mono HB2.out.size)).alloc (Nat.le_trans HB2.out.size hb3.size) (.cells #[.bool (parseD d).2.1,.slice A n c,.int .i64 ((parseD d).2.2.2:Nat)] 26))
 clear hx hb3 R2 E2 HB2
 dsimp only
 go_upto_region 3 with fail
 generalize hg2:w2.heap.size=g2 at *
 generalize hg3:w3.heap.size=g3 at *
 clear hg2
 refine wp_letter (fun w4=>Blk w4 g2 30 [.slice RA rn rc]∧Blk w4 g3 26 [.bool (parseD d).2.1,.slice A n c,.int .i64 ((parseD d).2.2.2:Nat)]∧RuleIs w4 RA rn rc (parseR r).2∧SN w4 A n c (parseD d).2.2.1∧Below w.heap.size w w4) ⟨E3.out,F3.out,R3.out,X3.out,HB3.out⟩ ?_
 clear E3 F3 R3 X3 HB3 hg3
 rintro w4 ⟨x0,x1,x2,x3,x4⟩
 have E4:=qh x0
 have F4:=qh x1
 have R4:=qh x2
 have X4:=qh x3
 have HB4:=qh x4
 have HG4:=qh (HG.out.below x4 ql)
 clear x0 x1 x2 x3 x4
 rcases parseR_cases r with ⟨x,h1,h2⟩|⟨e,h1,h2⟩
 ·rw [h1] at HH R4 HSm ⊢
  have H1:=qh h1
  clear h1 h2
  rcases parseD_cases d with ⟨b,k,sc,h3,hs,hb,hk⟩|⟨e,h3,h4⟩
  ·rw [h3] at HH F4 X4 ⊢
   have H3:=qh h3
   have HBK:=qh hb
   obtain ⟨m,hm⟩:∃ m,m=4 * 512:=⟨_,rfl⟩
   rw [← hm] at hk
   have HK:=qh hk
   clear h3 hb hk
   have HF:Hid (∀ w',Below w4.heap.size w4 w'→w'.cell? ⟨g2,0,none⟩=some (.slice RA rn rc)∧w'.cell? ⟨g3,0,none⟩=some (.bool b)∧w'.cell? ⟨g3,1,none⟩=some (.slice A n c)∧w'.cell? ⟨g3,2,none⟩=some (.int .i64 (sc:Nat))):=fun w' h=>by
    have d:=F4.out.below h F4.out.lt
    exact ⟨(E4.out.below h E4.out.lt).cell 0,d.cell 0,d.cell 1,d.cell 2⟩
   dsimp only
   refine wp_region_but (fun w'=>Below w4.heap.size w4 w') (by kernel_rfl) (by kernel_rfl) (Below.refl _ _).drew (fun hHeld=>?_)
   simp only [initL,lastL]
   have HB0:=qh hHeld
   refine takeY (i:=0) (v:=?v1) ?hy1 ?rest1
   case hy1=>(intro wz hSz;(have hfz:=HF.out wz hSz);go_split_ands;(first|(go_simp;done)|(go_simp;with_reducible rfl)))
   try simp only [Act.put,qqqT,qqq0,qqq1]
   refine takeY (i:=1) (v:=?v2) ?hy2 ?rest2
   case hy2=>(intro wz hSz;(have hfz:=HF.out wz hSz);go_split_ands;(first|(go_simp;done)|(go_simp;with_reducible rfl)))
   try simp only [Act.put,qqqT,qqq0,qqq1]
   refine takeY (i:=2) (v:=?v3) ?hy3 ?rest3
   case hy3=>(intro wz hSz;(have hfz:=HF.out wz hSz);go_split_ands;(first|(go_simp;done)|(go_simp;with_reducible rfl)))
   try simp only [Act.put,qqqT,qqq0,qqq1]
   refine takeY (i:=3) (v:=?v4) ?hy4 ?rest4
   case hy4=>(intro wz hSz;(have hfz:=HF.out wz hSz);go_split_ands;(first|(go_simp;done)|(go_simp;with_reducible rfl)))
   try simp only [Act.put,qqqT,qqq0,qqq1]
   refine takeY (i:=4) (v:=?v5) ?hy5 ?rest5
   case hy5=>(intro wz hSz;(have hfz:=HF.out wz hSz);go_split_ands;(first|(go_simp;done)|(go_simp;with_reducible rfl)))
   try simp only [Act.put,qqqT,qqq0,qqq1]
   refine takeY (i:=5) (v:=?v6) ?hy6 ?rest6
   case hy6=>(intro wz hSz;(have hfz:=HF.out wz hSz);go_split_ands;(first|(go_simp;done)|(go_simp;with_reducible rfl)))
   try simp only [Act.put,qqqT,qqq0,qqq1]
   refine takeY (i:=6) (v:=?v7) ?hy7 ?rest7
   case hy7=>(intro wz hSz;(have hfz:=HF.out wz hSz);go_split_ands;(first|(go_simp;done)|(go_simp;with_reducible rfl)))
   try simp only [Act.put,qqqT,qqq0,qqq1]
   refine takeY (i:=7) (v:=?v8) ?hy8 ?rest8
   case hy8=>(intro wz hSz;(have hfz:=HF.out wz hSz);go_split_ands;(first|(go_simp;done)|(go_simp;with_reducible rfl)))
   try simp only [Act.put,qqqT,qqq0,qqq1]
   refine takeY (i:=8) (v:=?v9) ?hy9 ?rest9
   case hy9=>(intro wz hSz;(have hfz:=HF.out wz hSz);go_split_ands;(first|(go_simp;done)|(go_simp;with_reducible rfl)))
   try simp only [Act.put,qqqT,qqq0,qqq1]
   refine wpAnyH_ready (rs:=[9]) (by kernel_rfl) (by simp) ?_
   refine consL rfl (fun K hK=>?_) AllReadyH.nil
   go_simp
   refine (oper_OfS _ b A n c k sc m (HG4.out.below HB0.out ql) (X4.out.below HB0.out ql) hs HBK.out HK.out (by omega) (by omega)).mono ?_
   rintro e w110 ⟨⟨b10,A10,n10,c10,B10,m10,d10,iA10,il10,ic10,fA10,fl10,fc10,tA10,tl10,tc10,rfl,r⟩,hb⟩
   have HB10:=qh (below_on HB0.out ql hb)
   have OP10:=qh r
   clear r hb
   dsimp only
   try clear hHeld
   refine hK.out _ _ (HB10.out) (fun hHeld=>?_)
   clear hK K
   try simp only [Act.put,qqqT,qqq0,qqq1]
   refine wpAnyH_ready (rs:=[10]) (by kernel_rfl) (by simp) ?_
   refine consL rfl (fun K hK=>?_) AllReadyH.nil
   go_simp
   refine (rule_Holds _ RA rn rc x (HG4.out.below HB10.out ql) (R4.out.below HB10.out ql) HSm.out _ _ _ _ _ _ _ _ _ _ _ _ _ _ _ _ _ _ _ _ _ _ _ _ OP10.out (by omega) (by omega)).mono ?_
   rintro e w111 ⟨rfl,hb⟩
   have HB11:=qh (below_on HB10.out ql hb)
   clear hb
   dsimp only
   try clear hHeld
   refine hK.out _ _ (HB11.out) (fun hHeld=>?_)
   clear hK K
   try simp only [Act.put,qqqT,qqq0,qqq1]
   refine takeY (i:=11) (v:=?v12) ?hy12 ?rest12
   case hy12=>(intro wz hSz;(have hfz:=HF.out wz hSz);go_split_ands;(first|(go_simp;done)|(go_simp;with_reducible rfl)))
   try simp only [Act.put,qqqT,qqq0,qqq1]
   refine wpAnyH_done (by kernel_rfl) ?_ _
   clear hHeld
   unfold TailQ
   go_wp2_with fail
   go_ret
   exact ⟨by rw [HH.out];simp [ofVal],HB4.out.trans (HB11.out.mono HB4.out.size)⟩
  ·rw [h3] at HH F4 X4 ⊢
   have H3:=qh h3
   clear h3
   rcases h4 with rfl|rfl
   ·dsimp only
    go_quiet (fail)
    go_step
    go_wp2_with fail
    go_ret
    exact ⟨by rw [HH.out];simp,below_drewN HB4.out nq⟩
   ·dsimp only
    go_quiet (fail)
    go_step
    go_wp2_with fail
    go_ret
    exact ⟨by rw [HH.out];simp,below_drewN HB4.out nq⟩
 ·rw [h1] at HH R4 HSm ⊢
  have H1:=qh h1
  clear h1
  rcases h2 with rfl|rfl
  ·dsimp only
   go_quiet (fail)
   go_step
   go_wp2_with fail
   go_ret
   exact ⟨by rw [HH.out];simp,below_drewN HB4.out nq⟩
  ·dsimp only
   go_quiet (fail)
   go_step
   go_wp2_with fail
   go_ret
   exact ⟨by rw [HH.out];simp,below_drewN HB4.out nq⟩
theorem parseD_1:parseD [49]=(0,false,1,0):=by decide +kernel
theorem parseD_10:parseD [49,46,48]=(0,false,10,1):=by decide +kernel
theorem holds_ex1:holdsP exOne [49]=true:=by
 unfold holdsP
 rw [parse_exOne,parseD_1,holds_exOne (i:=1) (v:=0) _ (by decide +kernel) (by decide +kernel)]
 decide
theorem holds_ex10:holdsP exOne [49,46,48]=false:=by
 unfold holdsP
 rw [parse_exOne,parseD_10,holds_exOne (i:=1) (v:=1) _ (by decide +kernel) (by decide +kernel)]
 decide
theorem law_awake (w:World) (hG:GW w) :
  Calls Tryz.prog 13 #[] w fun e w'=>e=.returned (.bool true)∧Below w.heap.size w w':=by
 have HG:=qh hG
 clear hG
 go_enter Tryz.func13,Tryz.ntmps13
 go_wp2_with fail
 refine (law_holds w exOne [49] HG.out).mono ?_
 rw [holds_ex1]
 rintro e w2 ⟨rfl,hb2⟩
 have HB2:=qh hb2
 clear hb2
 dsimp only
 go_wp2_with fail
 refine (law_holds w2 exOne [49,46,48] (HG.out.below HB2.out ql)).mono ?_
 rw [holds_ex10]
 rintro e w3 ⟨rfl,hb3⟩
 have HB3:=qh (HB2.out.trans (hb3.mono HB2.out.size))
 clear hb3
 dsimp only
 go_wp2_with fail
 go_ret
 exact ⟨rfl,HB3.out⟩
set_option exponentiation.threshold 5000 in
theorem decK_lt {b:Bool} {l:List Nat} {sc:Int} (hw:Wd l) (hl:l.length≤10):decK b l sc<2 ^ (32 * 10):=by
 unfold decK
 split
 ·refine Nat.lt_of_lt_of_le (val_lt l hw) ?_
  rw [show (4294967296:Nat)=2 ^ 32 from rfl,← Nat.pow_mul]
  exact Nat.pow_le_pow_right (by omega) (by omega)
 ·exact Nat.pow_pos (by omega)
theorem ruleIs_one {w:World} {g1 g2:Nat} {d:Cnd} {FA TA:Option Addr} {fn fc tn tc:Nat} (h1:Blk w g1 47 [.int .u8 (d.letter:Int),.int .i64 d.mod,.bool d.nt,.slice FA fn fc,.slice TA tn tc]) (h2:Blk w g2 48 [.slice (some ⟨g1,0,none⟩) 1 1])
  (hF:IntsAre w FA fn fc d.fr) (hT:IntsAre w TA tn tc d.to):RuleIs w (some ⟨g2,0,none⟩) 1 1 [[d]]:=by
 refine ⟨[.slice (some ⟨g1,0,none⟩) 1 1],h2.slc 1 1 (by simp) (by omega),.cons ⟨_,_,_,rfl,⟨[(d,.slice FA fn fc,.slice TA tn tc)],rfl,⟨_,_,rfl,by simp,rfl,fun _=>⟨g1,0,rfl,fun j x hx=>?_⟩⟩,fun e he=>?_⟩⟩ .nil⟩
 ·rw [Nat.zero_add,h1.cell j];exact hx
 ·obtain rfl:=List.mem_singleton.1 he
  exact ⟨⟨_,_,_,rfl,hF⟩,⟨_,_,_,rfl,hT⟩⟩
theorem law_RuleNot (w:World) (s:ByteArray) (b:Bool) (A:Option Addr) (n c:Nat) (l:List Nat) (sc:Int) (hG:GW w) (h:RL w (.slice A n c) l) :
  Calls Tryz.prog 5 #[.string s,.agg #[.bool b,.slice A n c,.int .i64 sc]] w fun e w'=>e=.returned (.bool true)∧Below w.heap.size w w':=by
 have HG:=qh hG
 have HX:=qh h
 obtain rfl:n=l.length:=by obtain ⟨A',c',h1,-⟩:=h.form;exact (Value.slice.inj h1).2.1
 clear hG h
 go_enter Tryz.func5,Tryz.ntmps5
 go_upto_region 1 with fail
 refine wp_letter (fun w1=>Blk w1 w.heap.size 26 [.bool b,.slice A l.length c,.int .i64 sc]∧Below w.heap.size w w1) ⟨Blk.made _ 26 _ _ _ rfl rfl,(Below.refl _ _).alloc ql _⟩ ?_
 rintro w1 ⟨b0,hb⟩
 have B1:=qh b0
 have HB1:=qh hb
 clear b0 hb
 go_wp2_with fail
 refine (law_awake w1 (HG.out.below HB1.out ql)).mono ?_
 rintro e w2 ⟨rfl,hb2⟩
 have B2:=qh (B1.out.below hb2 B1.out.lt)
 have HB2:=qh (HB1.out.trans (hb2.mono HB1.out.size))
 clear hb2 B1 HB1
 dsimp only
 go_wp2_with fail
 refine (rule_Parse w2 s (HG.out.below HB2.out ql)).mono ?_
 rintro e w3 ⟨RA,rn,rc,rfl,hr,hb3⟩
 obtain ⟨g3,hg3⟩:∃ g3,w3.heap.size=g3:=⟨_,rfl⟩
 have R3:=qh (RuleIs.below hr.is ((Below.refl w3.heap.size w3).alloc ql (.cells #[.slice RA rn rc] 30)) ql)
 have E3:Hid (Blk (w3.alloc (.cells #[.slice RA rn rc] 30)) g3 30 [.slice RA rn rc]):=by rw [← hg3];exact Blk.made w3 30 [.slice RA rn rc] w3.heap.size #[.slice RA rn rc] rfl rfl
 have B3:=qh ((B2.out.below hb3 B2.out.lt).alloc (.cells #[.slice RA rn rc] 30))
 have HB3:=qh ((HB2.out.trans (hb3.mono HB2.out.size)).alloc (Nat.le_trans HB2.out.size hb3.size) (.cells #[.slice RA rn rc] 30))
 have hlt3:w.heap.size<g3:=by have:=B2.out.lt;have:=hb3.size;omega
 clear hr hb3 B2 HB2
 dsimp only
 go_upto_region 4 with fail
 try rw [hg3]
 refine wp_letter (fun w4=>Blk w4 w.heap.size 26 [.bool b,.slice A l.length c,.int .i64 sc]∧Blk w4 g3 30 [.slice RA rn rc]∧RuleIs w4 RA rn rc (parseR s.data.toList).2∧Below w.heap.size w w4) ⟨B3.out,E3.out,R3.out,HB3.out⟩ ?_
 clear E3 B3 R3 HB3 hg3
 rintro w4 ⟨x0,x1,x2,x3⟩
 have B4:=qh x0
 have E4:=qh x1
 have R4:=qh x2
 have HB4:=qh x3
 have HG4:=qh (HG.out.below x3 ql)
 obtain ⟨-,k1⟩:=x0.c2
 have e0:=x1.c1
 have hsl:s.data.toList.length=s.size:=(Lib.size_eq s).symm
 clear x0 x1 x2 x3
 by_cases h200:200<s.size
 ·have hI:(200:Int)<(s.size:Int):=by omega
  go_wp2_with fail
  go_ret
  exact ⟨rfl,HB4.out⟩
 have hI:¬ (200:Int)<(s.size:Int):=by omega
 by_cases h10:10<l.length
 ·have hI2:(10:Int)<(l.length:Int):=by omega
  go_wp2_with fail
  go_ret
  exact ⟨rfl,HB4.out⟩
 have hI2:¬ (10:Int)<(l.length:Int):=by omega
 rcases parseR_cases s.data.toList with ⟨x,h1,h2⟩|⟨e,h1,h2⟩
 case inr =>
  rw [h1]
  clear h1
  dsimp only
  rcases h2 with rfl|rfl
  ·go_wp2_with fail
   go_ret
   exact ⟨rfl,HB4.out⟩
  ·go_wp2_with fail
   go_ret
   exact ⟨rfl,HB4.out⟩
 rw [h1] at R4 ⊢
 have H1:=qh h1
 have HSm:=qh h2
 obtain rfl:rn=x.length:=R4.out.len
 have hxl:=h2.len
 clear h1 h2
 dsimp only
 by_cases hx1:x.length=1
 case neg =>
  have hI3:((x.length:Int) != 1)=true:=by simp;omega
  go_wp2_with fail
  go_ret
  exact ⟨rfl,HB4.out⟩
 obtain ⟨cs,rfl⟩:=List.length_eq_one_iff.1 hx1
 obtain ⟨rb,ro,rfl,hrow⟩:=R4.out.at (by simp)
 obtain ⟨CA,cn,cc,c0,hC⟩:=hrow 0 cs rfl
 rw [Nat.add_zero] at c0
 obtain rfl:cn=cs.length:=hC.len
 have HC:=qh hC
 have hcl:=(HSm.out.rows cs (by simp)).1
 clear hC hrow hx1 hxl
 simp only [List.length_singleton] at *
 by_cases hc1:cs.length=1
 case neg =>
  have hI3:((cs.length:Int) != 1)=true:=by simp;omega
  go_wp2_with fail
  go_ret
  exact ⟨rfl,HB4.out⟩
 obtain ⟨d,rfl⟩:=List.length_eq_one_iff.1 hc1
 obtain ⟨cb,co,rfl,hcd⟩:=HC.out.at (by simp)
 obtain ⟨FA,fn,fc,TA,tn,tc,hF,hT,d0,d1,d2,d3,d4⟩:=hcd 0 d rfl
 simp only [Nat.zero_mul,Nat.add_zero] at d0 d1 d2 d3 d4
 have HF:=qh hF
 have HTT:=qh hT
 clear hcd hc1 hcl hF hT
 simp only [List.length_singleton] at *
 go_upto_region 9 with fail
 obtain ⟨d',hd'⟩:∃ d':Cnd,d'={ d with nt:=!d.nt }:=⟨_,rfl⟩
 have HD':=qh hd'
 have h4z:=HB4.out.size
 have hba:Below w4.heap.size w4 ((((w4.alloc (.cells #[.int .u8 (d.letter:Int),.int .i64 d.mod,.bool (!d.nt),.slice FA fn fc,.slice TA tn tc] 47)).alloc (.cells #[.int .u8 (d.letter:Int),.int .i64 d.mod,.bool (!d.nt),.slice FA fn fc,.slice TA tn tc] 47)).alloc (.cells #[.slice (some ⟨w4.heap.size+1,0,none⟩) 1 1] 48)).alloc (.cells #[.slice (some ⟨w4.heap.size+1+1,0,none⟩) 1 1] 30)):=((((Below.refl _ _).alloc ql _).alloc (by simp) _).alloc (by simp;omega) _).alloc (by simp;omega) _
 have q1:Blk ((((w4.alloc (.cells #[.int .u8 (d.letter:Int),.int .i64 d.mod,.bool (!d.nt),.slice FA fn fc,.slice TA tn tc] 47)).alloc (.cells #[.int .u8 (d.letter:Int),.int .i64 d.mod,.bool (!d.nt),.slice FA fn fc,.slice TA tn tc] 47)).alloc (.cells #[.slice (some ⟨w4.heap.size+1,0,none⟩) 1 1] 48)).alloc (.cells #[.slice (some ⟨w4.heap.size+1+1,0,none⟩) 1 1] 30)) (w4.heap.size+1) 47 [.int .u8 (d.letter:Int),.int .i64 d.mod,.bool (!d.nt),.slice FA fn fc,.slice TA tn tc]:=((Blk.made (w4.alloc (.cells #[.int .u8 (d.letter:Int),.int .i64 d.mod,.bool (!d.nt),.slice FA fn fc,.slice TA tn tc] 47)) 47 [.int .u8 (d.letter:Int),.int .i64 d.mod,.bool (!d.nt),.slice FA fn fc,.slice TA tn tc] (w4.heap.size+1) #[.int .u8 (d.letter:Int),.int .i64 d.mod,.bool (!d.nt),.slice FA fn fc,.slice TA tn tc] (by simp) rfl).alloc _).alloc _
 have q2:Blk ((((w4.alloc (.cells #[.int .u8 (d.letter:Int),.int .i64 d.mod,.bool (!d.nt),.slice FA fn fc,.slice TA tn tc] 47)).alloc (.cells #[.int .u8 (d.letter:Int),.int .i64 d.mod,.bool (!d.nt),.slice FA fn fc,.slice TA tn tc] 47)).alloc (.cells #[.slice (some ⟨w4.heap.size+1,0,none⟩) 1 1] 48)).alloc (.cells #[.slice (some ⟨w4.heap.size+1+1,0,none⟩) 1 1] 30)) (w4.heap.size+1+1) 48 [.slice (some ⟨w4.heap.size+1,0,none⟩) 1 1]:=(Blk.made _ 48 _ _ _ (by simp) rfl).alloc _
 have q3:Blk ((((w4.alloc (.cells #[.int .u8 (d.letter:Int),.int .i64 d.mod,.bool (!d.nt),.slice FA fn fc,.slice TA tn tc] 47)).alloc (.cells #[.int .u8 (d.letter:Int),.int .i64 d.mod,.bool (!d.nt),.slice FA fn fc,.slice TA tn tc] 47)).alloc (.cells #[.slice (some ⟨w4.heap.size+1,0,none⟩) 1 1] 48)).alloc (.cells #[.slice (some ⟨w4.heap.size+1+1,0,none⟩) 1 1] 30)) (w4.heap.size+1+1+1) 30 [.slice (some ⟨w4.heap.size+1+1,0,none⟩) 1 1]:=Blk.made _ 30 _ _ _ (by simp) rfl
 have q4:=ruleIs_one (d:=d') (by rw [hd'];exact q1) q2 (by rw [hd'];exact HF.out.below hba ql) (by rw [hd'];exact HTT.out.below hba ql)
 have q5:=B4.out.below hba B4.out.lt
 have q6:=E4.out.below hba E4.out.lt
 have q7:=R4.out.below hba ql
 have q8:=HB4.out.trans (hba.mono h4z)
 clear d0 d1 d2 d3 d4 c0 e0 k1 q1 q2 hd'
 clear hba
 generalize hW:((((w4.alloc (.cells #[.int .u8 (d.letter:Int),.int .i64 d.mod,.bool (!d.nt),.slice FA fn fc,.slice TA tn tc] 47)).alloc (.cells #[.int .u8 (d.letter:Int),.int .i64 d.mod,.bool (!d.nt),.slice FA fn fc,.slice TA tn tc] 47)).alloc (.cells #[.slice (some ⟨w4.heap.size+1,0,none⟩) 1 1] 48)).alloc (.cells #[.slice (some ⟨w4.heap.size+1+1,0,none⟩) 1 1] 30))=w5 at *
 clear hW
 have Q3:=qh q3
 have Q4:=qh q4
 have B5:=qh q5
 have E5:=qh q6
 have R5:=qh q7
 have HB5:=qh q8
 have HG5:=qh (HG.out.below q8 ql)
 obtain ⟨k0,k1,k2⟩:=q5.c3
 clear q3 q4 q5 q6 q7 q8 HB4 B4 E4 R4 HF HTT HC HG4
 generalize w4.heap.size=g4 at *
 obtain ⟨m,hm⟩:∃ m,m=32 * 10:=⟨_,rfl⟩
 have HK:Hid (decK b l sc<2 ^ m):=by rw [hm];exact decK_lt HX.out.2 (by omega)
 go_wp2_with fail
 refine (oper_Of w5 b A l.length c l sc m HG5.out (HX.out.below HB5.out ql) (by omega) HK.out (by omega) (by omega)).mono ?_
 generalize decK b l sc=k at *
 generalize decS b l sc=S at *
 rintro e w6 ⟨⟨ob,oA,on,oc,oB,om,od,iA,il,ic,fA,fl,fc',tA,tl,tc',rfl,r⟩,hb⟩
 obtain ⟨g6,hg6⟩:∃ g6,w6.heap.size=g6:=⟨_,rfl⟩
 have hba:Below w6.heap.size w6 (w6.alloc (.cells #[.bool ob,.slice oA on oc,.slice oB om od,.slice iA il ic,.int .i64 (S:Nat),.int .i64 ((short k S).2:Nat),.slice fA fl fc',.slice tA tl tc'] 39)):=(Below.refl _ _).alloc ql _
 have hbb:=hb.trans (hba.mono hb.size)
 have q3:=Q3.out.below hbb Q3.out.lt
 have q4:=Q4.out.below hbb ql
 have q6:=E5.out.below hbb E5.out.lt
 have q7:=R5.out.below hbb ql
 have q8:=HB5.out.trans (hbb.mono HB5.out.size)
 have q9:=r.below hba ql
 have q10:Blk (w6.alloc (.cells #[.bool ob,.slice oA on oc,.slice oB om od,.slice iA il ic,.int .i64 (S:Nat),.int .i64 ((short k S).2:Nat),.slice fA fl fc',.slice tA tl tc'] 39)) g6 39 [.bool ob,.slice oA on oc,.slice oB om od,.slice iA il ic,.int .i64 (S:Nat),.int .i64 ((short k S).2:Nat),.slice fA fl fc',.slice tA tl tc']:=by rw [← hg6];exact Blk.made _ 39 _ _ _ rfl rfl
 have Q3':=qh q3
 have Q4':=qh q4
 have E6:=qh q6
 have R6:=qh q7
 have HB6:=qh q8
 have OP6:=qh q9
 have O6:=qh q10
 clear q3 q4 q6 q7 q8 q9 q10 hba hbb r hb k0 k1 k2 Q3 Q4 E5 R5 HB5 B5
 dsimp only
 go_upto_region 10 with fail
 try rw [hg6]
 refine wp_letter (fun w7=>Blk w7 (g4+1+1+1) 30 [.slice (some ⟨g4+1+1,0,none⟩) 1 1]∧RuleIs w7 (some ⟨g4+1+1,0,none⟩) 1 1 [[d']]∧Blk w7 g3 30 [.slice (some ⟨rb,ro,none⟩) 1 rc]∧RuleIs w7 (some ⟨rb,ro,none⟩) 1 rc [[d]]∧OpR w7 ob oA on oc oB om od iA il ic fA fl fc' tA tl tc' k (10 ^ S) m (k / 10 ^ S) S (short k S).2 (k % 10 ^ S) ((short k S).1 % 10 ^ (short k S).2)∧Blk w7 g6 39 [.bool ob,.slice oA on oc,.slice oB om od,.slice iA il ic,.int .i64 (S:Nat),.int .i64 ((short k S).2:Nat),.slice fA fl fc',.slice tA tl tc']∧Below w.heap.size w w7) ⟨Q3'.out,Q4'.out,E6.out,R6.out,OP6.out,O6.out,HB6.out⟩ ?_
 clear Q3' Q4' E6 R6 OP6 O6 HB6 hg6
 rintro w7 ⟨x0,x1,x2,x3,x4,x5,x6⟩
 have N7:=qh x0
 have NR7:=qh x1
 have E7:=qh x2
 have R7:=qh x3
 have OP7:=qh x4
 have O7:=qh x5
 have HB7:=qh x6
 have HG7:=qh (HG.out.below x6 ql)
 clear x0 x1 x2 x3 x4 x5 x6
 have HN:Hid (holdsV (ofVal k S) [[d']]=!holdsV (ofVal k S) [[d]]):=by have:=holds_not (ofVal k S) H1.out (by omega);rw [← HD'.out] at this;exact this
 have HSN:Hid (SmallR [[d']]):=by have:=smallR_good (good_not H1.out (by omega));rw [← HD'.out] at this;exact this
 generalize hp:holdsV (ofVal k S) [[d]]=p at *
 have HP:=qh hp
 clear hp
 have HF:Hid (∀ w',Below w7.heap.size w7 w'→w'.cell? ⟨g4+1+1+1,0,none⟩=some (.slice (some ⟨g4+1+1,0,none⟩) 1 1)∧w'.cell? ⟨g3,0,none⟩=some (.slice (some ⟨rb,ro,none⟩) 1 rc)∧w'.cell? ⟨g6,0,none⟩=some (.bool ob)∧w'.cell? ⟨g6,1,none⟩=some (.slice oA on oc)∧w'.cell? ⟨g6,2,none⟩=some (.slice oB om od)∧w'.cell? ⟨g6,3,none⟩=some (.slice iA il ic)∧w'.cell? ⟨g6,4,none⟩=some (.int .i64 (S:Nat))∧w'.cell? ⟨g6,5,none⟩=some (.int .i64 ((short k S).2:Nat))∧w'.cell? ⟨g6,6,none⟩=some (.slice fA fl fc')∧w'.cell? ⟨g6,7,none⟩=some (.slice tA tl tc')):=fun w' h=>by
  have d:=O7.out.below h O7.out.lt
  exact ⟨(N7.out.below h N7.out.lt).cell 0,(E7.out.below h E7.out.lt).cell 0,d.cell 0,d.cell 1,d.cell 2,d.cell 3,d.cell 4,d.cell 5,d.cell 6,d.cell 7⟩
 refine wp_region_but (fun w'=>Below w7.heap.size w7 w') (by kernel_rfl) (by kernel_rfl) (Below.refl _ _).drew (fun hHeld=>?_)
 simp only [initL,lastL]
 have HB0:=qh hHeld
 refine takeY (i:=0) (v:=?v1) ?hy1 ?rest1
 case hy1=>(intro wz hSz;(have hfz:=HF.out wz hSz);go_split_ands;(first|(go_simp;done)|(go_simp;with_reducible rfl)))
 try simp only [Act.put,qqqT,qqq0,qqq1]
 refine takeY (i:=1) (v:=?v2) ?hy2 ?rest2
 case hy2=>(intro wz hSz;(have hfz:=HF.out wz hSz);go_split_ands;(first|(go_simp;done)|(go_simp;with_reducible rfl)))
 try simp only [Act.put,qqqT,qqq0,qqq1]
 refine takeY (i:=3) (v:=?v3) ?hy3 ?rest3
 case hy3=>(intro wz hSz;(have hfz:=HF.out wz hSz);go_split_ands;(first|(go_simp;done)|(go_simp;with_reducible rfl)))
 try simp only [Act.put,qqqT,qqq0,qqq1]
 refine takeY (i:=4) (v:=?v4) ?hy4 ?rest4
 case hy4=>(intro wz hSz;(have hfz:=HF.out wz hSz);go_split_ands;(first|(go_simp;done)|(go_simp;with_reducible rfl)))
 try simp only [Act.put,qqqT,qqq0,qqq1]
 refine wpAnyH_ready (rs:=[2]) (by kernel_rfl) (by simp) ?_
 refine consL rfl (fun K hK=>?_) AllReadyH.nil
 go_simp
 refine (rule_Holds _ (some ⟨g4+1+1,0,none⟩) 1 1 [[d']] (HG7.out.below HB0.out ql) (NR7.out.below HB0.out ql) HSN.out _ _ _ _ _ _ _ _ _ _ _ _ _ _ _ _ _ _ _ _ _ _ _ _ (OP7.out.below HB0.out ql) (by omega) (by omega)).mono ?_
 rintro e w105 ⟨he,hb⟩
 rw [show holdsV (opVal k (10 ^ S) (k / 10 ^ S) S (short k S).2 (k % 10 ^ S) ((short k S).1 % 10 ^ (short k S).2)) [[d']]=!p from HN.out] at he
 subst he
 have HB5:=qh (below_on HB0.out ql hb)
 clear hb
 dsimp only
 try clear hHeld
 refine hK.out _ _ (HB5.out) (fun hHeld=>?_)
 clear hK K
 try simp only [Act.put,qqqT,qqq0,qqq1]
 refine wpAnyH_ready (rs:=[5]) (by kernel_rfl) (by simp) ?_
 refine consL rfl (fun K hK=>?_) AllReadyH.nil
 go_simp
 refine (rule_Holds _ (some ⟨rb,ro,none⟩) 1 rc [[d]] (HG7.out.below HB5.out ql) (R7.out.below HB5.out ql) HSm.out _ _ _ _ _ _ _ _ _ _ _ _ _ _ _ _ _ _ _ _ _ _ _ _ (OP7.out.below HB5.out ql) (by omega) (by omega)).mono ?_
 rintro e w106 ⟨he,hb⟩
 rw [show holdsV (opVal k (10 ^ S) (k / 10 ^ S) S (short k S).2 (k % 10 ^ S) ((short k S).1 % 10 ^ (short k S).2)) [[d]]=p from HP.out] at he
 subst he
 have HB6:=qh (below_on HB5.out ql hb)
 clear hb
 dsimp only
 try clear hHeld
 refine hK.out _ _ (HB6.out) (fun hHeld=>?_)
 clear hK K
 try simp only [Act.put,qqqT,qqq0,qqq1]
 refine takeY (i:=6) (v:=?v7) ?hy7 ?rest7
 case hy7=>(intro wz hSz;(have hfz:=HF.out wz hSz);go_split_ands;(first|(go_simp;done)|(go_simp;with_reducible rfl)))
 try simp only [Act.put,qqqT,qqq0,qqq1]
 refine wpAnyH_done (by kernel_rfl) ?_ _
 clear hHeld
 unfold TailQ
 go_wp2_with fail
 go_ret
 exact ⟨by cases p <;> rfl,HB7.out.trans (HB6.out.mono HB7.out.size)⟩
end Go.Proofs.YtdgleeglndcjhaaGreatDoor
