import Derived.Test.YtdgleeglndcjhaaGreatDoorW33
import Derived.Test.YtdgleeglndcjhaaGreatDoorW34
import Derived.Test.YtdgleeglndcjhaaGreatDoorW35
import Derived.Test.YtdgleeglndcjhaaGreatDoorW24
import Derived.Test.YtdgleeglndcjhaaGreatDoorW21
import Derived.Test.YtdgleeglndcjhaaGreatDoorW23
set_option linter.unusedSimpArgs false
set_option linter.unusedVariables false
set_option maxHeartbeats 16000000
set_option maxRecDepth 100000
namespace Go.Proofs.YtdgleeglndcjhaaGreatDoor
open Go.RowKit
theorem ref_GoodRule (w:World) (A:Option Addr) (n c:Nat) (r:Rl) (h:RuleIs w A n c r) (hs:SmallR r) :
  Calls Tryz.prog 24 #[.slice A n c] w fun e w'=>e=.returned (.bool (goodR r))∧Below w.heap.size w w':=by
 have HX:=qh h
 have HS:=qh hs
 have HL:=qh (writeR_len hs)
 obtain ⟨g,hg⟩:∃ g,goodR r=g:=⟨_,rfl⟩
 have hg2:g=decide (parseR (writeR r)=(0,r)):=by rw [← hg];rfl
 rw [hg]
 obtain ⟨t,ht⟩:∃ t,writeR r=t:=⟨_,rfl⟩
 rw [ht] at hg2 HL
 have HT:=qh ht
 have HG:=qh hg2
 clear h hs hg hg2 ht
 rcases parseR_cases t with ⟨x,h1,h2⟩|⟨e1,h1,h2⟩
 ·have H1:=qh h1
  have H2:=qh h2
  clear h1 h2
  go_enter Tryz.func24,Tryz.ntmps24
  go_wp2_with fail
  refine (ref_show w A n c r HX.out HS.out).mono ?_
  rw [HT.out]
  rintro e w1 ⟨rfl,hb1⟩
  have HB1:=qh hb1
  clear hb1
  dsimp only
  go_wp2_with fail
  refine (ref_ParseRule w1 t HL.out).mono ?_
  rw [H1.out]
  rintro e w2 ⟨⟨A2,n2,c2,rfl,hr2⟩,hb2⟩
  have HR2:=qh hr2
  have HB2:=qh (HB1.out.trans (hb2.mono HB1.out.size))
  clear hr2 hb2
  dsimp only
  go_wp2_with fail
  refine (same_rule w2 A2 A n2 c2 n c x r HR2.out (HX.out.below HB2.out ql) H2.out HS.out).mono ?_
  rintro e w3 ⟨rfl,hb3⟩
  have HB3:=qh (HB2.out.trans (hb3.mono HB2.out.size))
  have hfin:g=decide (x=r):=by
   rw [HG.out,H1.out,decide_eq_decide]
   constructor
   ·intro h;exact (Prod.mk.inj h).2
   ·rintro rfl;rfl
  have HF:=qh hfin
  clear hb3 hfin
  dsimp only
  go_wp2_with fail
  go_ret
  exact ⟨by rw [HF.out];rfl,HB3.out⟩
 ·have H1:=qh h1
  have hne:((e1:Int) == 0)=false:=by rcases h2 with rfl|rfl <;> rfl
  have hfin:g=false:=by
   rw [HG.out,h1]
   refine decide_eq_false ?_
   intro h
   have:=(Prod.mk.inj h).1
   rcases h2 with rfl|rfl <;> cases this
  have HF:=qh hfin
  clear h1 h2 hfin
  go_enter Tryz.func24,Tryz.ntmps24
  go_wp2_with fail
  refine (ref_show w A n c r HX.out HS.out).mono ?_
  rw [HT.out]
  rintro e w1 ⟨rfl,hb1⟩
  have HB1:=qh hb1
  clear hb1
  dsimp only
  go_wp2_with fail
  refine (ref_ParseRule w1 t HL.out).mono ?_
  rw [H1.out]
  rintro e w2 ⟨⟨A2,n2,c2,rfl,hr2⟩,hb2⟩
  have HB2:=qh (HB1.out.trans (hb2.mono HB1.out.size))
  clear hr2 hb2
  dsimp only
  go_wp2_with fail
  go_ret
  exact ⟨by rw [HF.out];rfl,HB2.out⟩
theorem ref_ShowRule (w:World) (A:Option Addr) (n c:Nat) (r:Rl) (h:RuleIs w A n c r) (hs:SmallR r) :
  Calls Tryz.prog 25 #[.slice A n c] w fun e w'=>e=.returned (.string ⟨(if goodR r then writeR r else []).toArray⟩)∧Below w.heap.size w w':=by
 have HX:=qh h
 have HS:=qh hs
 obtain ⟨t,ht⟩:∃ t,(if goodR r then writeR r else [])=t:=⟨_,rfl⟩
 rw [ht]
 have HT:=qh ht
 clear h hs ht
 go_enter Tryz.func25,Tryz.ntmps25
 go_wp2_with fail
 refine (ref_GoodRule w A n c r HX.out HS.out).mono ?_
 rcases Bool.eq_false_or_eq_true (goodR r) with hg|hg
 ·have HE:Hid (writeR r=t):=by rw [← HT.out,hg];rfl
  rw [hg]
  rintro e w1 ⟨rfl,hb1⟩
  have HB1:=qh hb1
  clear hb1 HT hg
  dsimp only
  go_wp2_with fail
  refine (ref_show w1 A n c r (HX.out.below HB1.out ql) HS.out).mono ?_
  rw [HE.out]
  rintro e w2 ⟨rfl,hb2⟩
  have HB2:=qh (HB1.out.trans (hb2.mono HB1.out.size))
  clear hb2
  dsimp only
  go_wp2_with fail
  go_ret
  exact ⟨rfl,HB2.out⟩
 ·have HE:Hid (t=[]):=by rw [← HT.out,hg];rfl
  rw [hg]
  rintro e w1 ⟨rfl,hb1⟩
  have HB1:=qh hb1
  clear hb1 HT hg
  dsimp only
  go_wp2_with fail
  refine bodyPost_ret (v:=.string ⟨#[]⟩) (by simp [results,Tryz.results25,go_sem];try rfl) rfl ?_
  exact ⟨by rw [HE.out],HB1.out⟩
theorem any_take {f:List Cnd→Bool} {r:Rl} {i:Nat} {l:List Cnd} (h:r[i]?=some l):(r.take (i+1)).any f=((r.take i).any f || f l):=by
 rw [List.take_add_one,h];simp
theorem all_take {f:Cnd→Bool} {r:List Cnd} {i:Nat} {l:Cnd} (h:r[i]?=some l):(r.take (i+1)).all f=((r.take i).all f && f l):=by
 rw [List.take_add_one,h];simp
theorem any_of {f:List Cnd→Bool} {r:Rl} {i:Nat} {l:List Cnd} (h:r[i]?=some l) (hf:f l=true):r.any f=true:=List.any_eq_true.2 ⟨l,List.mem_of_getElem? h,hf⟩
theorem ref_Holds (w:World) (A:Option Addr) (n c:Nat) (r:Rl) (h:RuleIs w A n c r) (hs:SmallR r) (b:Bool) (DA:Option Addr) (dn dc k S:Nat) (hd:D4 w DA dn dc k) (hl:(d4 k).length≤5000) (hS:S≤1000) :
  Calls Tryz.prog 26 #[.slice A n c,.agg #[.bool b,.slice DA dn dc,.int .i64 (S:Int)]] w fun e w'=>e=.returned (.bool (holdsV (ofVal k S) r))∧Below w.heap.size w w':=by
 obtain rfl:n=r.length:=h.len
 have HX:=qh h
 have HS:=qh hs
 have HD:=qh hd
 have L1:=qh hl
 have hlr:=hs.len
 have hlI:(r.length:Int)≤1000:=by omega
 obtain ⟨Y,hY⟩:∃ Y,holdsV (ofVal k S) r=Y:=⟨_,rfl⟩
 rw [hY]
 have HY:Hid (Y=(goodR r && r.any fun l=>l.all (condV (ofVal k S)))):=hY.symm
 obtain ⟨f,hf⟩:∃ f,condV (ofVal k S)=f:=⟨_,rfl⟩
 rw [hf] at HY
 have HFV:=qh hf
 clear h hs hd hl hY hf
 go_enter Tryz.func26,Tryz.ntmps26
 go_upto_region 1 with fail
 refine wp_letter (fun w1=>Blk w1 w.heap.size 68 [.bool b,.slice DA dn dc,.int .i64 (S:Int)]∧Below w.heap.size w w1) ⟨Blk.made _ 68 _ _ _ rfl rfl,(Below.refl _ _).alloc ql _⟩ ?_
 rintro w1 ⟨b0,hb⟩
 have K0:=qh b0
 have HB:=qh hb
 clear b0 hb
 go_wp2_with fail
 refine (ref_GoodRule w1 A r.length c r (HX.out.below HB.out ql) HS.out).mono ?_
 rcases Bool.eq_false_or_eq_true (goodR r) with hg|hg
 case inr =>
  rw [hg] at HY ⊢
  rintro e w2 ⟨rfl,hb2⟩
  have HB2:=qh (HB.out.trans (hb2.mono HB.out.size))
  clear hb2
  dsimp only
  go_wp2_with fail
  go_ret
  exact ⟨by rw [HY.out];rfl,HB2.out⟩
 have HV:=qh (goodR_valid hg)
 rw [hg] at HY ⊢
 rintro e w2 ⟨rfl,hb2⟩
 have HB12:=qh hb2
 clear hb2 hg
 dsimp only
 go_wp2_with fail
 go_loopw [5] (fun i wr=>∃ kk:Nat,kk≤r.length∧i=.int .i64 (kk:Int)∧((r.take kk).any fun l=>l.all f)=false∧Below w1.heap.size w1 wr) (fun i _=>r.length - (intOf i).toNat)
 case atStart=>exact ⟨0,Nat.zero_le _,rfl,rfl,HB12.out⟩
 case round =>
  obtain ⟨kk,hkk,rfl,hno,hbr⟩:=hrel
  obtain ⟨wo,rfl⟩:∃ wo:World,wo=wr:=⟨_,rfl⟩
  have HNO:=qh hno
  have HBR:=qh hbr
  clear hno hbr
  by_cases hlt:kk<r.length
  case neg =>
   have hkI:¬ (kk:Int)<(r.length:Int):=by omega
   have hfin:Y=false:=by
    have h1:=HNO.out
    rw [List.take_of_length_le (by omega)] at h1
    rw [HY.out,h1];rfl
   have HF:=qh hfin
   clear hfin
   go_wp2_with fail
   go_ret
   exact ⟨by rw [HF.out];rfl,HB.out.trans (HBR.out.mono HB.out.size)⟩
  obtain ⟨rb,ro,rfl,hc⟩:=HX.out.at (by omega)
  obtain ⟨l,hlx⟩:∃ l,r[kk]?=some l:=⟨r[kk],List.getElem?_eq_getElem hlt⟩
  obtain ⟨LA,ln,lc,m0,hL⟩:=hc kk l hlx
  obtain rfl:ln=l.length:=hL.len
  have HL:=qh hL
  have HLX:=qh hlx
  have hsl:=HS.out.rows l (List.mem_of_getElem? hlx)
  have hll:=hsl.1
  have HSL:=qh hsl
  have HVL:=qh (HV.out.rows l (List.mem_of_getElem? hlx)).2
  have hllI:(l.length:Int)≤1000:=by omega
  have HM0:Hid (∀ w',Below w1.heap.size w1 w'→w'.cell? ⟨rb,ro+kk,none⟩=some (.slice LA l.length lc)):=fun w' h=>((HB.out.trans (h.mono HB.out.size)).cell (World.block_lt_of_cell? w _ m0)).trans m0
  have hkI:(kk:Int)<(r.length:Int):=by omega
  have hk0:(0:Int)≤(kk:Int):=by omega
  clear hc hlx m0 hL hsl
  go_wp2_with fail
  go_loopw [6,7] (fun a j wr=>∃ q:Nat,q≤l.length∧j=.int .i64 (q:Int)∧a=.bool ((l.take q).all f)∧Below w1.heap.size w1 wr) (fun _ i _=>l.length - (intOf i).toNat)
  case atStart=>exact ⟨0,Nat.zero_le _,rfl,rfl,HBR.out⟩
  case round =>
   obtain ⟨q,hq,rfl,rfl,hb2⟩:=hrel
   obtain ⟨wi,rfl⟩:∃ wi:World,wi=wr:=⟨_,rfl⟩
   have HBI:=qh hb2
   have m1:=HM0.out wi hb2
   clear hb2
   by_cases hql:q<l.length
   case neg =>
    have hqI:¬ (q:Int)<(l.length:Int):=by omega
    have hqe:l.take q=l:=List.take_of_length_le (by omega)
    rw [hqe]
    clear hqe
    rcases Bool.eq_false_or_eq_true (l.all f) with ha|ha
    ·have hfin:Y=true:=by rw [HY.out,any_of HLX.out ha];rfl
     have HF:=qh hfin
     rw [ha]
     clear hfin ha
     go_wp2_with fail
     go_ret
     exact ⟨by rw [HF.out];rfl,HB.out.trans (HBI.out.mono HB.out.size)⟩
    ·have hnx:((r.take (kk+1)).any fun l=>l.all f)=false:=by rw [any_take HLX.out,HNO.out,ha];rfl
     have HNX:=qh hnx
     rw [ha]
     clear hnx ha
     go_wp2_with fail
     go_roundw
     case rel=>exact ⟨kk+1,by omega,by go_num,HNX.out,HBI.out⟩
     case measure=>simp [intOf];omega
   have hqI:(q:Int)<(l.length:Int):=by omega
   have hq0:(0:Int)≤(q:Int):=by omega
   obtain ⟨xb,xo,rfl,hc2⟩:=HL.out.at (by omega)
   obtain ⟨d,hd⟩:∃ d,l[q]?=some d:=⟨l[q],List.getElem?_eq_getElem hql⟩
   have HAT:=qh (all_take (f:=f) hd)
   rcases Bool.eq_false_or_eq_true ((l.take q).all f) with ha|ha
   case inr =>
    rw [ha] at HAT ⊢
    clear hc2 hd ha
    go_wp2_with fail
    go_upto_region 10 with fail
    go_quiet (fail)
    go_step
    go_wp2_with fail
    go_roundw
    case rel=>exact ⟨q+1,by omega,by go_num,by rw [HAT.out];rfl,below_drewN HBI.out _⟩
    case measure=>simp [intOf];omega
   rw [ha] at HAT ⊢
   obtain ⟨FA,fn,fc,TA,tn,tc,hF,hTT,c0,c1,c2,c3,c4⟩:=hc2 q d hd
   have hdv:=HVL.out d (List.mem_of_getElem? hd)
   have hds:=HSL.out.2 d (List.mem_of_getElem? hd)
   have HDV:=qh hdv
   have HDS:=qh hds
   have HF:=qh hF
   have HTO:=qh hTT
   have HBWI:=qh (HB.out.trans (HBI.out.mono HB.out.size))
   have HKK:Hid (∀ w',Below wi.heap.size wi w'→w'.cell? ⟨rb,ro+kk,none⟩=some (.slice (some ⟨xb,xo,none⟩) l.length lc)∧w'.cell? ⟨xb,xo+q * 5,none⟩=some (.int .u8 (d.letter:Int))∧w'.cell? ⟨xb,xo+q * 5+1,none⟩=some (.int .i64 d.mod)∧w'.cell? ⟨xb,xo+q * 5+2,none⟩=some (.bool d.nt)∧w'.cell? ⟨xb,xo+q * 5+3,none⟩=some (.slice FA fn fc)∧w'.cell? ⟨xb,xo+q * 5+4,none⟩=some (.slice TA tn tc)∧w'.cell? ⟨w.heap.size,0,none⟩=some (.bool b)∧w'.cell? ⟨w.heap.size,1,none⟩=some (.slice DA dn dc)∧w'.cell? ⟨w.heap.size,2,none⟩=some (.int .i64 (S:Int))∧Below wi.heap.size wi w'):=fun w' h=>by
    have hw:=HBWI.out.trans (h.mono HBWI.out.size)
    have hw1:=HBI.out.trans (h.mono HBI.out.size)
    have e0:=K0.out.below hw1 K0.out.lt
    have cc:∀ (a:Addr) u,w.cell? a=some u→w'.cell? a=some u:=fun a u e=>(hw.cell (World.block_lt_of_cell? w _ e)).trans e
    exact ⟨HM0.out w' hw1,cc _ _ c0,cc _ _ c1,cc _ _ c2,cc _ _ c3,cc _ _ c4,e0.cell 0,e0.cell 1,e0.cell 2,h⟩
   clear hc2 hd ha hF hTT c0 c1 c2 c3 c4 hdv hds
   go_wp2_with fail
   go_upto_region 10 with fail
   go_region_held3 (fun w'=>w'.cell? ⟨rb,ro+kk,none⟩=some (.slice (some ⟨xb,xo,none⟩) l.length lc)∧w'.cell? ⟨xb,xo+q * 5,none⟩=some (.int .u8 (d.letter:Int))∧w'.cell? ⟨xb,xo+q * 5+1,none⟩=some (.int .i64 d.mod)∧w'.cell? ⟨xb,xo+q * 5+2,none⟩=some (.bool d.nt)∧w'.cell? ⟨xb,xo+q * 5+3,none⟩=some (.slice FA fn fc)∧w'.cell? ⟨xb,xo+q * 5+4,none⟩=some (.slice TA tn tc)∧w'.cell? ⟨w.heap.size,0,none⟩=some (.bool b)∧w'.cell? ⟨w.heap.size,1,none⟩=some (.slice DA dn dc)∧w'.cell? ⟨w.heap.size,2,none⟩=some (.int .i64 (S:Int))∧Below wi.heap.size wi w')
    (first|exact HKK.out _ (Below.refl _ _).drew|(go_split_ands;exact HKK.out _ (Below.trans ‹Below wi.heap.size wi _› (hb5.mono (Below.size ‹Below wi.heap.size wi _›))))|fail)
    (first|((with_reducible refine (ref_holds _ d FA TA DA fn fc tn tc dn dc k S b (HF.out.below ?_ ql) (HTO.out.below ?_ ql) HDV.out HDS.out (HD.out.below ?_ ql) L1.out hS).mono ?_);(go_split_ands;exact HBWI.out.trans (Below.mono ‹Below wi.heap.size wi _› HBWI.out.size));(go_split_ands;exact HBWI.out.trans (Below.mono ‹Below wi.heap.size wi _› HBWI.out.size));(go_split_ands;exact HBWI.out.trans (Below.mono ‹Below wi.heap.size wi _› HBWI.out.size));rw [HFV.out];rintro e w5 ⟨rfl,hb5⟩)|fail)
   have hbf:Below wi.heap.size wi w5:=(by go_split_ands;assumption)
   have HBF:=qh (HBI.out.trans (hbf.mono HBI.out.size))
   go_wp2_with fail
   go_roundw
   case rel=>exact ⟨q+1,by omega,by go_num,by rw [HAT.out];rfl,HBF.out⟩
   case measure=>simp [intOf];omega
def RetOwn (e:Ending) (w':World) (k S:Nat):Prop:=∃ b A n c,e=.returned (.agg #[.bool b,.slice A n c,.int .i64 (S:Nat)])∧D4 w' A n c k
theorem D4.putD {w:World} {A:Option Addr} {n c k g:Nat} (h:D4 w A n c k) (hf:Far A n c k g) (u v x:Value):D4 (((w.setCell ⟨g,0,none⟩ u).setCell ⟨g,1,none⟩ v).setCell ⟨g,2,none⟩ x) A n c k:=((h.setFar hf 0 u).setFar hf 1 v).setFar hf 2 x
theorem D4.zcell {w:World} {A:Option Addr} {n c k g:Nat} {t:TypeId} {b:Bool} {A':Option Addr} {n' c':Nat} (h:D4 w A n c k) (hB:Blk w g t [.bool b,.slice A' n' c',.int .i64 0]):Far A n c k g:=by
 intro hk j hj e
 subst e
 have h0:0<(d4 k).length:=by rw [d4_pos hk];simp
 obtain ⟨b1,o,rfl,hc⟩:=h.1.at h0
 have hjb:b1=j:=by simpa [Value.ownBlock] using hj
 subst hjb
 have hl:(d4 k)[(d4 k).length - 1]?=some ((d4 k)[(d4 k).length - 1]):=List.getElem?_eq_getElem (by omega)
 have hx:=hc _ _ hl
 rw [hB.cell] at hx
 have hcn:=canon_of_d4 k
 unfold Canon4 at hcn
 rw [List.getLast?_eq_getElem?,hl] at hcn
 generalize o+((d4 k).length - 1)=p at hx
 match p,hx with
 | 0,hx=>simp at hx
 | 1,hx=>simp at hx
 | 2,hx =>
  simp at hx
  have h9:(d4 k)[(d4 k).length - 1]=0:=by omega
  exact hcn (by rw [h9])
 | p+3,hx=>simp at hx
theorem ref_own (w:World) (b:Bool) (A:Option Addr) (n c:Nat) (l:List Nat) (sc:Int) (h:RL w (.slice A n c) l) (hl:l.length≤1000) :
  Calls Tryz.prog 27 #[.agg #[.bool b,.slice A n c,.int .i64 sc]] w fun e w'=>RetOwn e w' (decK b l sc) (decS b l sc)∧Below w.heap.size w w':=by
 have HX:=qh h
 have HL:=qh hl
 clear h hl
 go_enter Tryz.func27,Tryz.ntmps27
 go_upto_region 1 with fail
 refine wp_letter (fun w1=>Blk w1 w.heap.size 26 [.bool b,.slice A n c,.int .i64 sc]∧Blk w1 (w.heap.size+1) 68 [.bool false,.slice none 0 0,.int .i64 0]∧Below w.heap.size w w1) ⟨(Blk.made _ 26 _ _ _ rfl rfl).alloc _,Blk.made _ 68 _ _ _ (by simp) rfl,((Below.refl _ _).alloc ql _).alloc (by simp) _⟩ ?_
 rintro w1 ⟨b0,b1,hb⟩
 have K0:=qh b0
 have K1:=qh b1
 have HB:=qh hb
 obtain ⟨r0,r1,r2⟩:=b0.c3
 clear hb b0 b1
 go_wp2_with fail
 refine (dec_Good w1 b A n c l sc (HX.out.below HB.out ql) (Nat.le_trans HL.out (by decide))).mono ?_
 have HDK:Hid (decK b l sc=if goodD b l sc then val l else 0):=rfl
 have HDS:Hid (decS b l sc=if goodD b l sc then sc.toNat else 0):=rfl
 clear r0 r1 r2
 rcases Bool.eq_false_or_eq_true (goodD b l sc) with hg|hg
 ·have HK1:Hid (decK b l sc=val l):=by rw [HDK.out,hg];rfl
  have HS1:Hid (decS b l sc=sc.toNat):=by rw [HDS.out,hg];rfl
  have HSC:Hid (0≤sc):=by
   unfold goodD at hg
   simp only [Bool.and_eq_true,decide_eq_true_eq] at hg
   exact hg.2.1
  rw [hg]
  rintro e w2 ⟨rfl,hb2⟩
  have e0:=K0.out.below hb2 K0.out.lt
  have e1:=K1.out.below hb2 K1.out.lt
  have E0:=qh e0
  have E1:=qh e1
  have HB2:=qh (HB.out.trans (hb2.mono HB.out.size))
  clear hb2 HDK HDS hg e0 e1
  dsimp only
  have HKK:Hid (∀ w',Below w2.heap.size w2 w'→w'.cell? ⟨w.heap.size,0,none⟩=some (.bool b)∧w'.cell? ⟨w.heap.size,1,none⟩=some (.slice A n c)∧w'.cell? ⟨w.heap.size,2,none⟩=some (.int .i64 sc)∧Below w2.heap.size w2 w'):=fun w' h=>by
   have e0:=E0.out.below h E0.out.lt
   exact ⟨e0.cell 0,e0.cell 1,e0.cell 2,h⟩
  go_upto_region 3 with fail
  refine wp_region_but (fun w'=>w'.cell? ⟨w.heap.size,0,none⟩=some (.bool b)∧w'.cell? ⟨w.heap.size,1,none⟩=some (.slice A n c)∧w'.cell? ⟨w.heap.size,2,none⟩=some (.int .i64 sc)∧Below w2.heap.size w2 w') (by kernel_rfl) (by kernel_rfl) (HKK.out _ (Below.refl _ _).drew) (fun hHeld=>?_)
  simp only [initL,lastL]
  refine takeY (i:=0) (v:=?v1) ?hy1 ?rest1
  case hy1=>(intro wz hSz;(have hfz:=hSz);go_split_ands;(first|(go_simp;done)|(go_simp;with_reducible rfl)))
  try simp only [Act.put,qqqT,qqq0,qqq1]
  refine takeY (i:=1) (v:=?v2) ?hy2 ?rest2
  case hy2=>(intro wz hSz;(have hfz:=hSz);go_split_ands;(first|(go_simp;done)|(go_simp;with_reducible rfl)))
  try simp only [Act.put,qqqT,qqq0,qqq1]
  refine takeY (i:=2) (v:=?v3) ?hy3 ?rest3
  case hy3=>(intro wz hSz;(have hfz:=hSz);go_split_ands;(first|(go_simp;done)|(go_simp;with_reducible rfl)))
  try simp only [Act.put,qqqT,qqq0,qqq1]
  refine takeY (i:=3) (v:=?v4) ?hy4 ?rest4
  case hy4=>(intro wz hSz;(have hfz:=hSz);go_split_ands;(first|(go_simp;done)|(go_simp;with_reducible rfl)))
  try simp only [Act.put,qqqT,qqq0,qqq1]
  refine takeY (i:=4) (v:=?v5) ?hy5 ?rest5
  case hy5=>(intro wz hSz;(have hfz:=hSz);go_split_ands;(first|(go_simp;done)|(go_simp;with_reducible rfl)))
  try simp only [Act.put,qqqT,qqq0,qqq1]
  refine takeY (i:=6) (v:=?v6) ?hy6 ?rest6
  case hy6=>(intro wz hSz;(have hfz:=hSz);go_split_ands;(first|(go_simp;done)|(go_simp;with_reducible rfl)))
  try simp only [Act.put,qqqT,qqq0,qqq1]
  refine takeY (i:=7) (v:=?v7) ?hy7 ?rest7
  case hy7=>(intro wz hSz;(have hfz:=hSz);go_split_ands;(first|(go_simp;done)|(go_simp;with_reducible rfl)))
  try simp only [Act.put,qqqT,qqq0,qqq1]
  refine wpAnyH_ready (rs:=[5]) (by kernel_rfl) (by simp) ?_
  refine consL rfl (fun K hK=>?_) AllReadyH.nil
  go_simp
  refine (ref_Words _ A n c l (HX.out.below (HB2.out.trans ((by go_split_ands;assumption:Below w2.heap.size w2 _).mono HB2.out.size)) ql) HL.out).mono ?_
  rintro e w9 ⟨⟨A9,n9,c9,rfl,r⟩,hb⟩
  have HB9:Hid (Below w2.heap.size w2 w9):=below_on (by go_split_ands;assumption) ql hb
  have R9:=qh r
  clear r hb
  dsimp only
  try clear hHeld
  refine hK.out _ _ (HKK.out _ HB9.out) (fun hHeld=>?_)
  clear hK K
  try simp only [Act.put,qqqT,qqq0,qqq1]
  refine takeY (i:=8) (v:=?v8) ?hy8 ?rest8
  case hy8=>(intro wz hSz;(have hfz:=hSz);go_split_ands;(first|(go_simp;done)|(go_simp;with_reducible rfl)))
  try simp only [Act.put,qqqT,qqq0,qqq1]
  refine wpAnyH_letter (fun wz=>D4 wz A9 n9 c9 (val l)∧Blk wz (w.heap.size+1) 68 [.bool false,.slice none 0 0,.int .i64 0]∧Below w2.heap.size w2 wz) ⟨R9.out,E1.out.below HB9.out E1.out.lt,HB9.out⟩ ?_
  clear hHeld
  rintro wz ⟨y1,y2,y3⟩
  have hHeld:=HKK.out wz y3
  have Y1:=qh y1
  have Y2:=qh y2
  have Y3:=qh y3
  clear y1 y2 y3
  refine wpAnyH_done (by kernel_rfl) ?_ _
  clear hHeld
  have hz:=Y2.out.lt
  have hs:=Y1.out.putD (Y1.out.zcell Y2.out) (.bool b) (.slice A9 n9 c9) (.int .i64 sc)
  have hf:=(((Y2.out.put 0 (.bool b)).put 1 (.slice A9 n9 c9)).put 2 (.int .i64 sc))
  simp only [qqq0,qqq1] at hf
  obtain ⟨r0,r1,r2⟩:=hf.c3
  have hbf:Below w.heap.size w (((wz.setCell ⟨w.heap.size+1,0,none⟩ (.bool b)).setCell ⟨w.heap.size+1,1,none⟩ (.slice A9 n9 c9)).setCell ⟨w.heap.size+1,2,none⟩ (.int .i64 sc)) :=
   (((HB2.out.trans (Y3.out.mono HB2.out.size)).setCell (by simp) _).setCell (by simp) _).setCell (by simp) _
  unfold TailQ
  obtain ⟨p0,p1,p2,q0,q1,q2⟩:=Y2.out.cf3
  go_wp2_with fail
  refine bodyPost_ret (v:=.agg #[.bool b,.slice A9 n9 c9,.int .i64 sc]) (by simp [results,Tryz.results27,go_sem,r0,r1,r2];try rfl) rfl ?_
  have hsc:sc=((sc.toNat:Nat):Int):=by have:=HSC.out;omega
  exact ⟨⟨_,_,_,_,by rw [HS1.out,← hsc],by rw [HK1.out];exact hs⟩,hbf⟩
 ·have HK1:Hid (decK b l sc=0):=by rw [HDK.out,hg];rfl
  have HS1:Hid (decS b l sc=0):=by rw [HDS.out,hg];rfl
  rw [hg]
  rintro e w2 ⟨rfl,hb2⟩
  have HB2:=qh (HB.out.trans (hb2.mono HB.out.size))
  have e1:=K1.out.below hb2 K1.out.lt
  have E1:=qh e1
  have HZ:=qh e1.lt
  have hz:=e1.lt
  clear hb2 HDK HDS hg e1
  dsimp only
  have hf:=(((E1.out.put 0 (.bool false)).put 1 (.slice none 0 0)).put 2 (.int .i64 0))
  simp only [qqq0,qqq1] at hf
  obtain ⟨r0,r1,r2⟩:=hf.c3
  have hbf:Below w.heap.size w (((w2.setCell ⟨w.heap.size+1,0,none⟩ (.bool false)).setCell ⟨w.heap.size+1,1,none⟩ (.slice none 0 0)).setCell ⟨w.heap.size+1,2,none⟩ (.int .i64 0)) :=
   ((HB2.out.setCell (by simp) _).setCell (by simp) _).setCell (by simp) _
  obtain ⟨p0,p1,p2,q0,q1,q2⟩:=E1.out.cf3
  go_wp2_with fail
  refine bodyPost_ret (v:=.agg #[.bool false,.slice none 0 0,.int .i64 0]) (by simp [results,Tryz.results27,go_sem,r0,r1,r2];try rfl) rfl ?_
  exact ⟨⟨_,_,_,_,by rw [HS1.out];rfl,by rw [HK1.out];exact d4_nil _⟩,hbf⟩
end Go.Proofs.YtdgleeglndcjhaaGreatDoor
