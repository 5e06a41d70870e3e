import Derived.Test.YtdgleeglndcjhaaGreatDoorW23
import Derived.Test.YtdgleeglndcjhaaGreatDoorW24
import Derived.Test.YtdgleeglndcjhaaGreatDoorW21
import Derived.Test.YtdgleeglndcjhaaGreatDoorW36
import Derived.Test.YtdgleeglndcjhaaGreatDoorRows
import Derived.HandedShaped
import Derived.LaidLaws
import Derived.Shelf.Vars
import Derived.ChangeSame
import Derived.ChangeVars
import Derived.ChangeMaps5
import Derived.JoinedOf
import Derived.RowKit
import Derived.RowKit3
import Derived.RowKitTokens
import Derived.Carry
import Derived.ProofKit
import Derived.Lib.LaidTab
import Derived.Stop.LaidErr
set_option linter.constructorNameAsVariable false
set_option linter.unusedSimpArgs false
set_option linter.unusedVariables false
set_option maxHeartbeats 64000000
set_option maxRecDepth 100000
namespace Go.Proofs.YtdgleeglndcjhaaGreatDoor
open Go.RowKit
def InRu (r:Rl):Prop:=∀ l ∈ r,∀ c ∈ l,c.letter<256∧In64 c.mod∧(∀ x ∈ c.fr,In64 x)∧∀ x ∈ c.to,In64 x
def Six (l:List Cnd):Prop:=∀ c ∈ l,c.fr.length≤6∧c.to.length≤6
theorem smallRu_of {r:Rl} (hi:InRu r) (h:r.length≤5) (hr:∀ l ∈ r,l.length≤5∧Six l):SmallR r :=
 ⟨Nat.le_trans h (by decide),fun l hl=>⟨Nat.le_trans (hr l hl).1 (by decide),fun c hc=>⟨(hi l hl c hc).1,(hi l hl c hc).2.1,(hi l hl c hc).2.2.1,(hi l hl c hc).2.2.2,Nat.le_trans ((hr l hl).2 c hc).1 (by decide),Nat.le_trans ((hr l hl).2 c hc).2 (by decide)⟩⟩⟩
theorem all_next {α:Type} {P:α→Prop} {l:List α} {k:Nat} {x:α} (h:∀ a ∈ l.take k,P a) (hx:l[k]?=some x) (hp:P x):∀ a ∈ l.take (k+1),P a:=by
 rw [List.take_add_one,hx]
 intro a ha
 rcases List.mem_append.1 ha with h1|h1
 ·exact h a h1
 ·obtain rfl:a=x:=by simpa using h1
  exact hp
theorem decS_le (b:Bool) (l:List Nat) (sc:Int):decS b l sc≤1000:=by
 unfold decS
 split
 ·rename_i h
  unfold goodD at h
  simp only [Bool.and_eq_true,decide_eq_true_eq] at h
  omega
 ·exact Nat.zero_le _
set_option exponentiation.threshold 5000 in
theorem law_RuleSays (w:World) (s:ByteArray) (RA:Option Addr) (rn rc:Nat) (r:Rl) (b:Bool) (A:Option Addr) (n c:Nat) (l:List Nat) (sc:Int) (hG:GW w) (hR:RuleIs w RA rn rc r) (hI:InRu r) (h:RL w (.slice A n c) l) :
  Calls Tryz.prog 7 #[.string s,.agg #[.slice RA rn rc],.agg #[.bool b,.slice A n c,.int .i64 sc]] w fun e w'=>e=.returned (.bool true)∧Below w.heap.size w w':=by
 have HG:=qh hG
 obtain rfl:rn=r.length:=hR.len
 obtain rfl:n=l.length:=by
  obtain ⟨A',c',e0,-,-⟩:=h.form
  exact (Value.slice.inj e0).2.1
 have HR:=qh hR
 have HI:=qh hI
 have HX:=qh h
 obtain ⟨p,rfl⟩:∃ p:Bs,s=⟨p.toArray⟩:=⟨s.data.toList,by cases s;simp⟩
 clear hG hR hI h
 go_enter Tryz.func7,Tryz.ntmps7
 go_upto_region 1 with fail
 refine wp_letter (fun w1=>Blk w1 w.heap.size 30 [.slice RA r.length rc]∧Blk w1 (w.heap.size+1) 26 [.bool b,.slice A l.length c,.int .i64 sc]∧Below w.heap.size w w1) ⟨(Blk.made _ 30 _ _ _ rfl rfl).alloc _,Blk.made _ 26 _ _ _ (by simp) rfl,((Below.refl _ _).alloc ql _).alloc (by simp) _⟩ ?_
 rintro w1 ⟨z1,z2,z3⟩
 obtain ⟨g4,hg4⟩:∃ g4,w.heap.size=g4:=⟨_,rfl⟩
 obtain ⟨g5,hg5⟩:∃ g5,w.heap.size+1=g5:=⟨_,rfl⟩
 rw [hg5] at z2
 rw [hg4] at z1
 try rw [hg5]
 try rw [hg4]
 have K4:=qh z1
 have K5:=qh z2
 have HB1:=qh z3
 clear z1 z2 z3
 go_wp2_with fail
 refine (law_awake w1 (HG.out.below HB1.out ql)).mono ?_
 rintro e w2 ⟨rfl,hb2⟩
 have B4:=qh (K4.out.below hb2 K4.out.lt)
 have B5:=qh (K5.out.below hb2 K5.out.lt)
 have HB2:=qh (HB1.out.trans (hb2.mono HB1.out.size))
 have k0:=B4.out.c1
 obtain ⟨m0,m1,m2⟩:=B5.out.c3
 clear hb2 HB1 K4 K5 hg4 hg5
 dsimp only
 by_cases h3:300<p.length
 ·have i3:(300:Int)<(p.length:Int):=by omega
  go_wp2_with fail
  go_ret
  exact ⟨rfl,HB2.out⟩
 have i3:¬ (300:Int)<(p.length:Int):=by omega
 by_cases h10:10<l.length
 ·have i10:(10:Int)<(l.length:Int):=by omega
  go_wp2_with fail
  go_ret
  exact ⟨rfl,HB2.out⟩
 have i10:¬ (10:Int)<(l.length:Int):=by omega
 by_cases h5:5<r.length
 ·have i5:(5:Int)<(r.length:Int):=by omega
  go_wp2_with fail
  go_ret
  exact ⟨rfl,HB2.out⟩
 have i5:¬ (5:Int)<(r.length:Int):=by omega
 have hrI:(r.length:Int)≤5:=by omega
 go_wp2_with fail
 go_loop [7] (fun i=>∃ kk:Nat,kk≤r.length∧i=.int .i64 (kk:Int)∧∀ l ∈ r.take kk,l.length≤5∧Six l) (fun i=>r.length - (intOf i).toNat)
 case atStart=>exact ⟨0,Nat.zero_le _,rfl,by simp⟩
 case round =>
  obtain ⟨kk,hkk,rfl,hok⟩:=hrel
  have HOK:=qh hok
  clear hok
  have hk0:(0:Int)≤(kk:Int):=by omega
  by_cases hlt:kk<r.length
  ·have hkI:(kk:Int)<(r.length:Int):=by omega
   have HRW:=qh (HR.out.below HB2.out ql)
   obtain ⟨rb,ro,rfl,hc⟩:=HRW.out.at (by omega)
   obtain ⟨ll,hlx⟩:∃ ll,r[kk]?=some ll:=⟨r[kk],List.getElem?_eq_getElem hlt⟩
   obtain ⟨LA,ln,lc,n0,hL⟩:=hc kk ll hlx
   obtain rfl:ln=ll.length:=hL.len
   have HLX:=qh hlx
   have HL:=qh hL
   clear hc hlx hL
   by_cases hl5:5<ll.length
   ·have j5:(5:Int)<(ll.length:Int):=by omega
    go_wp2_with fail
    go_ret
    exact ⟨rfl,HB2.out⟩
   have j5:¬ (5:Int)<(ll.length:Int):=by omega
   have hllI:(ll.length:Int)≤5:=by omega
   go_wp2_with fail
   go_loop [8] (fun j=>∃ q:Nat,q≤ll.length∧j=.int .i64 (q:Int)∧Six (ll.take q)) (fun i=>ll.length - (intOf i).toNat)
   case atStart=>exact ⟨0,Nat.zero_le _,rfl,fun c hc=>by simp at hc⟩
   case round =>
    obtain ⟨q,hq,rfl,hsx⟩:=hrel
    have HSX:=qh hsx
    clear hsx
    have hq0:(0:Int)≤(q:Int):=by omega
    by_cases hql:q<ll.length
    ·have hqI:(q:Int)<(ll.length:Int):=by omega
     obtain ⟨xb,xo,rfl,hc2⟩:=HL.out.at (by omega)
     obtain ⟨d,hd⟩:∃ d,ll[q]?=some d:=⟨ll[q],List.getElem?_eq_getElem hql⟩
     obtain ⟨FA,fn,fc,TA,tn,tc,hF,hTT,c0,c1,c2,c3,c4⟩:=hc2 q d hd
     obtain rfl:fn=d.fr.length:=hF.len
     obtain rfl:tn=d.to.length:=hTT.len
     have HD:=qh hd
     clear hc2 hd hF hTT c0 c1 c2
     by_cases hf6:6<d.fr.length
     ·have f6:(6:Int)<(d.fr.length:Int):=by omega
      go_wp2_with fail
      go_ret
      exact ⟨rfl,HB2.out⟩
     have f6:¬ (6:Int)<(d.fr.length:Int):=by omega
     by_cases ht6:6<d.to.length
     ·have t6:(6:Int)<(d.to.length:Int):=by omega
      go_wp2_with fail
      go_ret
      exact ⟨rfl,HB2.out⟩
     have t6:¬ (6:Int)<(d.to.length:Int):=by omega
     have hnx:Six (ll.take (q+1)):=all_next HSX.out HD.out ⟨by omega,by omega⟩
     have HNX:=qh hnx
     clear hnx
     go_wp2_with fail
     go_round
     case rel=>exact ⟨q+1,by omega,by go_num,HNX.out⟩
     case measure=>simp [intOf];omega
    ·have hqI:¬ (q:Int)<(ll.length:Int):=by omega
     have hsx:=HSX.out
     rw [List.take_of_length_le (by omega)] at hsx
     have hnx:∀ l ∈ r.take (kk+1),l.length≤5∧Six l:=all_next HOK.out HLX.out ⟨by omega,hsx⟩
     have HNX:=qh hnx
     clear hnx hsx
     go_wp2_with fail
     go_round
     case rel=>exact ⟨kk+1,by omega,by go_num,HNX.out⟩
     case measure=>simp [intOf];omega
  have hkI:¬ (kk:Int)<(r.length:Int):=by omega
  have hok:=HOK.out
  rw [List.take_of_length_le (by omega)] at hok
  have HSm:=qh (smallRu_of HI.out (by omega) hok)
  clear hok HOK hk0
  obtain ⟨⟨code,x⟩,hpx⟩:∃ y,parseR p=y:=⟨_,rfl⟩
  have HSx:Hid (SmallR x):=by
   rcases parseR_cases p with ⟨r1,h1,h2⟩|⟨e,h1,h2⟩
   ·rw [h1] at hpx;cases hpx;exact h2
   ·rw [h1] at hpx;cases hpx;exact ⟨by simp,fun l hl=>by cases hl⟩
  have HPX:=qh hpx
  clear hpx
  go_wp2_with fail
  refine (rule_Parse w2 ⟨p.toArray⟩ (HG.out.below HB2.out ql)).mono ?_
  rw [show (⟨p.toArray⟩:ByteArray).data.toList=p from rfl]
  unfold ParsePost
  rw [HPX.out]
  rintro e w3 ⟨XA,xn,xc,rfl,hr,hb3⟩
  obtain ⟨g9,hg9⟩:∃ g9,w3.heap.size=g9:=⟨_,rfl⟩
  have hal:Below w3.heap.size w3 (w3.alloc (.cells #[.slice XA xn xc] 30)):=(Below.refl _ _).alloc ql _
  have HBX:=qh (hb3.trans (hal.mono hb3.size))
  have HRX:=qh (RuleIs.below hr.is hal ql)
  have hbk:Blk (w3.alloc (.cells #[.slice XA xn xc] 30)) g9 30 [.slice XA xn xc]:=by rw [← hg9];exact Blk.made _ 30 _ _ _ rfl rfl
  have HK:=qh hbk
  clear hal hr hb3 hbk k0 m0 m1 m2
  dsimp only
  go_upto_region 16 with fail
  try rw [hg9]
  refine wp_letter (fun w4=>Blk w4 g9 30 [.slice XA xn xc]∧RuleIs w4 XA xn xc x∧Below w2.heap.size w2 w4) ⟨HK.out,HRX.out,HBX.out⟩ ?_
  clear HK HRX HBX hg9
  rintro w4 ⟨z1,z2,z3⟩
  have C9:=qh z1
  have X4:=qh z2
  have HB4:=qh z3
  clear z1 z2 z3
  go_wp2_with fail
  refine (ref_ParseRule w4 p (by omega)).mono ?_
  rw [HPX.out]
  rintro e w5 ⟨⟨YA,yn,yc,rfl,hy⟩,hb5⟩
  have C5:=qh (C9.out.below hb5 C9.out.lt)
  have X5:=qh (X4.out.below hb5 ql)
  have Y5:=qh hy
  have HB5:=qh (HB4.out.trans (hb5.mono HB4.out.size))
  have D5:=B5.out.below HB5.out B5.out.lt
  obtain ⟨m0,m1,m2⟩:=D5.c3
  clear hb5 hy D5 C9 X4 HB4
  have HGV:=qh (HB2.out.trans (HB5.out.mono HB2.out.size))
  obtain ⟨m,hm0,hm1,hm2⟩:∃ m,decK b l sc<2 ^ m∧200≤m∧m≤40000:=⟨32 * 10,decK_lt HX.out.2 (by omega),by decide,by decide⟩
  have HM:=qh hm0
  clear hm0
  dsimp only
  go_wp2_with fail
  refine (oper_Of w5 b A l.length c l sc m (HG.out.below HGV.out ql) (HX.out.below HGV.out ql) (by omega) HM.out hm1 hm2).mono ?_
  rintro e w6 ⟨⟨ob,oA,on,oc,oB,om,od,iA,il,ic,fA,fl,fc,tA,tl,tc,rfl,ho⟩,hb6⟩
  obtain ⟨g13,hg13⟩:∃ g13,w6.heap.size=g13:=⟨_,rfl⟩
  have hal:Below w6.heap.size w6 (w6.alloc (.cells #[.bool ob,.slice oA on oc,.slice oB om od,.slice iA il ic,.int .i64 (decS b l sc:Nat),.int .i64 ((short (decK b l sc) (decS b l sc)).2:Nat),.slice fA fl fc,.slice tA tl tc] 39)):=(Below.refl _ _).alloc ql _
  have hbb:=hb6.trans (hal.mono hb6.size)
  have HBX:=qh (HB5.out.trans (hbb.mono HB5.out.size))
  have HOP:=qh (ho.below hal ql)
  have hbk:Blk (w6.alloc (.cells #[.bool ob,.slice oA on oc,.slice oB om od,.slice iA il ic,.int .i64 (decS b l sc:Nat),.int .i64 ((short (decK b l sc) (decS b l sc)).2:Nat),.slice fA fl fc,.slice tA tl tc] 39)) g13 39 [.bool ob,.slice oA on oc,.slice oB om od,.slice iA il ic,.int .i64 (decS b l sc:Nat),.int .i64 ((short (decK b l sc) (decS b l sc)).2:Nat),.slice fA fl fc,.slice tA tl tc]:=by rw [← hg13];exact Blk.made _ 39 _ _ _ rfl rfl
  have HK:=qh hbk
  have C6:=qh (C5.out.below hbb C5.out.lt)
  have X6:=qh (X5.out.below hbb ql)
  have Y6:=qh (Y5.out.below hbb ql)
  clear hal ho hb6 hbk hbb C5 X5 Y5 HB5 m0 m1 m2 HGV
  dsimp only
  go_upto_region 18 with fail
  try rw [hg13]
  refine wp_letter (fun w7=>Blk w7 g9 30 [.slice XA xn xc]∧Blk w7 g13 39 [.bool ob,.slice oA on oc,.slice oB om od,.slice iA il ic,.int .i64 (decS b l sc:Nat),.int .i64 ((short (decK b l sc) (decS b l sc)).2:Nat),.slice fA fl fc,.slice tA tl tc]∧RuleIs w7 XA xn xc x∧RuleIs w7 YA yn yc x∧OpR w7 ob oA on oc oB om od iA il ic fA fl fc tA tl tc (decK b l sc) (10 ^ (decS b l sc)) m ((decK b l sc) / 10 ^ (decS b l sc)) (decS b l sc) (short (decK b l sc) (decS b l sc)).2 ((decK b l sc) % 10 ^ (decS b l sc)) ((short (decK b l sc) (decS b l sc)).1 % 10 ^ (short (decK b l sc) (decS b l sc)).2)∧Below w2.heap.size w2 w7) ⟨C6.out,HK.out,X6.out,Y6.out,HOP.out,HBX.out⟩ ?_
  clear C6 HK X6 Y6 HOP HBX hg13
  rintro w7 ⟨z1,z2,z3,z4,z5,z6⟩
  have C7:=qh z1
  have P7:=qh z2
  have X7:=qh z3
  have Y7:=qh z4
  have OP7:=qh z5
  have hb7:=HB2.out.trans (z6.mono HB2.out.size)
  have HB7:=qh hb7
  have B47:=qh (B4.out.below z6 B4.out.lt)
  have B57:=qh (B5.out.below z6 B5.out.lt)
  have HGW:=qh (HG.out.below hb7 ql)
  have R7:=qh (HR.out.below hb7 ql)
  have X7l:=qh (HX.out.below hb7 ql)
  have hl4:(d4 (decK b l sc)).length≤5000:=Nat.le_trans (d4_len (n:=80) (Nat.lt_of_lt_of_le (decK_lt HX.out.2 (by omega)) (by rw [show 32 * 10=4 * 80 by rfl,Nat.pow_mul];exact Nat.pow_le_pow_left (by decide) 80))) (by decide)
  have HL4:=qh hl4
  obtain ⟨gR,hgR⟩:∃ gR,goodR r=gR:=⟨_,rfl⟩
  obtain ⟨tS,htS⟩:∃ tS,(if goodR r then writeR r else [])=tS:=⟨_,rfl⟩
  obtain ⟨vR,hvR⟩:∃ vR,holdsV (ofVal (decK b l sc) (decS b l sc)) r=vR:=⟨_,rfl⟩
  obtain ⟨vX,hvX⟩:∃ vX,holdsV (ofVal (decK b l sc) (decS b l sc)) x=vX:=⟨_,rfl⟩
  have HGR:=qh hgR
  have HTS:=qh htS
  have HVR:=qh hvR
  have HVX:=qh hvX
  have HW:Hid (∀ w',Below w7.heap.size w7 w'→w'.cell? ⟨g4,0,none⟩=some (.slice RA r.length rc)∧w'.cell? ⟨g9,0,none⟩=some (.slice XA xn xc)∧w'.cell? ⟨g5,0,none⟩=some (.bool b)∧w'.cell? ⟨g5,1,none⟩=some (.slice A l.length c)∧w'.cell? ⟨g5,2,none⟩=some (.int .i64 sc)∧w'.cell? ⟨g13,0,none⟩=some (.bool ob)∧w'.cell? ⟨g13,1,none⟩=some (.slice oA on oc)∧w'.cell? ⟨g13,2,none⟩=some (.slice oB om od)∧w'.cell? ⟨g13,3,none⟩=some (.slice iA il ic)∧w'.cell? ⟨g13,4,none⟩=some (.int .i64 (decS b l sc:Nat))∧w'.cell? ⟨g13,5,none⟩=some (.int .i64 ((short (decK b l sc) (decS b l sc)).2:Nat))∧w'.cell? ⟨g13,6,none⟩=some (.slice fA fl fc)∧w'.cell? ⟨g13,7,none⟩=some (.slice tA tl tc)):=fun w' h=>by
   have e1:=B47.out.below h B47.out.lt
   have e2:=C7.out.below h C7.out.lt
   have e3:=B57.out.below h B57.out.lt
   have e4:=P7.out.below h P7.out.lt
   exact ⟨e1.cell 0,e2.cell 0,e3.cell 0,e3.cell 1,e3.cell 2,e4.cell 0,e4.cell 1,e4.cell 2,e4.cell 3,e4.cell 4,e4.cell 5,e4.cell 6,e4.cell 7⟩
  clear z1 z2 z3 z4 z5 z6 hb7 hl4 hgR htS hvR hvX C7 P7 B47 B57 B4 B5
  refine wp_region_but (fun w'=>Below w7.heap.size w7 w') (by kernel_rfl) (by kernel_rfl) (Below.refl _ _).drew (fun hHeld=>?_)
  simp only [initL,lastL]
  have HB0:=qh hHeld
  refine takeY (i:=0) (v:=?v21) ?hy21 ?rest21
  case hy21=>(intro wz hSz;(have hfz:=HW.out wz hSz);go_split_ands;(first|(go_simp;done)|(go_simp;with_reducible rfl)))
  try simp only [Act.put,qqqT,qqq0,qqq1]
  refine takeY (i:=1) (v:=?v22) ?hy22 ?rest22
  case hy22=>(intro wz hSz;(have hfz:=HW.out wz hSz);go_split_ands;(first|(go_simp;done)|(go_simp;with_reducible rfl)))
  try simp only [Act.put,qqqT,qqq0,qqq1]
  refine takeY (i:=2) (v:=?v23) ?hy23 ?rest23
  case hy23=>(intro wz hSz;(have hfz:=HW.out wz hSz);go_split_ands;(first|(go_simp;done)|(go_simp;with_reducible rfl)))
  try simp only [Act.put,qqqT,qqq0,qqq1]
  refine takeY (i:=3) (v:=?v24) ?hy24 ?rest24
  case hy24=>(intro wz hSz;(have hfz:=HW.out wz hSz);go_split_ands;(first|(go_simp;done)|(go_simp;with_reducible rfl)))
  try simp only [Act.put,qqqT,qqq0,qqq1]
  refine takeY (i:=4) (v:=?v25) ?hy25 ?rest25
  case hy25=>(intro wz hSz;(have hfz:=HW.out wz hSz);go_split_ands;(first|(go_simp;done)|(go_simp;with_reducible rfl)))
  try simp only [Act.put,qqqT,qqq0,qqq1]
  refine takeY (i:=6) (v:=?v26) ?hy26 ?rest26
  case hy26=>(intro wz hSz;(have hfz:=HW.out wz hSz);go_split_ands;(first|(go_simp;done)|(go_simp;with_reducible rfl)))
  try simp only [Act.put,qqqT,qqq0,qqq1]
  refine wpAnyH_ready (rs:=[5]) (by kernel_rfl) (by simp) ?_
  refine consL rfl (fun K hK=>?_) AllReadyH.nil
  go_simp
  refine (rule_Of _ XA xn xc x (X7.out.below HB0.out ql) HSx.out).mono ?_
  rintro e w27c ⟨A27,n27,c27,rfl,hr,hb⟩
  have HB27:=qh (below_on HB0.out ql hb)
  have aq27:=qh hr
  clear hb hr
  dsimp only
  try clear hHeld
  refine hK.out _ _ (HB27.out) (fun hHeld=>?_)
  clear hK K
  try simp only [Act.put,qqqT,qqq0,qqq1]
  refine wpAnyH_ready (rs:=[7]) (by kernel_rfl) (by simp) ?_
  refine consL rfl (fun K hK=>?_) AllReadyH.nil
  go_simp
  refine (same_rule _ A27 YA n27 c27 yn yc x x aq27.out (Y7.out.below HB27.out ql) HSx.out HSx.out).mono ?_
  rintro e w28c ⟨he,hb⟩
  rw [decide_eq_true rfl] at he
  subst he
  have HB28:=qh (below_on HB27.out ql hb)
  have aq28:=qh (aq27.out.below hb ql)
  clear hb
  dsimp only
  try clear hHeld
  refine hK.out _ _ (HB28.out) (fun hHeld=>?_)
  clear hK K
  try simp only [Act.put,qqqT,qqq0,qqq1]
  refine takeY (i:=8) (v:=?v29) ?hy29 ?rest29
  case hy29=>(intro wz hSz;(have hfz:=HW.out wz hSz);go_split_ands;(first|(go_simp;done)|(go_simp;with_reducible rfl)))
  try simp only [Act.put,qqqT,qqq0,qqq1]
  refine takeY (i:=9) (v:=?v30) ?hy30 ?rest30
  case hy30=>(intro wz hSz;(have hfz:=HW.out wz hSz);go_split_ands;(first|(go_simp;done)|(go_simp;with_reducible rfl)))
  try simp only [Act.put,qqqT,qqq0,qqq1]
  refine takeY (i:=10) (v:=?v31) ?hy31 ?rest31
  case hy31=>(intro wz hSz;(have hfz:=HW.out wz hSz);go_split_ands;(first|(go_simp;done)|(go_simp;with_reducible rfl)))
  try simp only [Act.put,qqqT,qqq0,qqq1]
  refine takeY (i:=12) (v:=?v32) ?hy32 ?rest32
  case hy32=>(intro wz hSz;(have hfz:=HW.out wz hSz);go_split_ands;(first|(go_simp;done)|(go_simp;with_reducible rfl)))
  try simp only [Act.put,qqqT,qqq0,qqq1]
  refine wpAnyH_ready (rs:=[11]) (by kernel_rfl) (by simp) ?_
  refine consL rfl (fun K hK=>?_) AllReadyH.nil
  go_simp
  refine (rule_Good _ RA r.length rc r (HGW.out.below HB28.out ql) (R7.out.below HB28.out ql) HSm.out).mono ?_
  rintro e w33c ⟨he,hb⟩
  rw [HGR.out] at he
  subst he
  have HB33:=qh (below_on HB28.out ql hb)
  clear hb
  dsimp only
  try clear hHeld
  refine hK.out _ _ (HB33.out) (fun hHeld=>?_)
  clear hK K
  try simp only [Act.put,qqqT,qqq0,qqq1]
  refine wpAnyH_ready (rs:=[13]) (by kernel_rfl) (by simp) ?_
  refine consL rfl (fun K hK=>?_) AllReadyH.nil
  go_simp
  refine (rule_Of _ RA r.length rc r (R7.out.below HB33.out ql) HSm.out).mono ?_
  rintro e w34c ⟨A34,n34,c34,rfl,hr,hb⟩
  have HB34:=qh (below_on HB33.out ql hb)
  have aq34:=qh hr
  clear hb hr
  dsimp only
  try clear hHeld
  refine hK.out _ _ (HB34.out) (fun hHeld=>?_)
  clear hK K
  try simp only [Act.put,qqqT,qqq0,qqq1]
  refine wpAnyH_ready (rs:=[14]) (by kernel_rfl) (by simp) ?_
  refine consL rfl (fun K hK=>?_) AllReadyH.nil
  go_simp
  refine (ref_GoodRule _ A34 n34 c34 r aq34.out HSm.out).mono ?_
  rintro e w35c ⟨he,hb⟩
  rw [HGR.out] at he
  subst he
  have HB35:=qh (below_on HB34.out ql hb)
  have aq35:=qh (aq34.out.below hb ql)
  clear hb
  dsimp only
  try clear hHeld
  refine hK.out _ _ (HB35.out) (fun hHeld=>?_)
  clear hK K
  try simp only [Act.put,qqqT,qqq0,qqq1]
  refine takeY (i:=15) (v:=?v36) ?hy36 ?rest36
  case hy36=>(intro wz hSz;(have hfz:=HW.out wz hSz);go_split_ands;(first|(go_simp;done)|(go_simp;with_reducible rfl)))
  try simp only [Act.put,qqqT,qqq0,qqq1]
  refine takeY (i:=16) (v:=?v37) ?hy37 ?rest37
  case hy37=>(intro wz hSz;(have hfz:=HW.out wz hSz);go_split_ands;(first|(go_simp;done)|(go_simp;with_reducible rfl)))
  try simp only [Act.put,qqqT,qqq0,qqq1]
  refine takeY (i:=17) (v:=?v38) ?hy38 ?rest38
  case hy38=>(intro wz hSz;(have hfz:=HW.out wz hSz);go_split_ands;(first|(go_simp;done)|(go_simp;with_reducible rfl)))
  try simp only [Act.put,qqqT,qqq0,qqq1]
  refine takeY (i:=18) (v:=?v39) ?hy39 ?rest39
  case hy39=>(intro wz hSz;(have hfz:=HW.out wz hSz);go_split_ands;(first|(go_simp;done)|(go_simp;with_reducible rfl)))
  try simp only [Act.put,qqqT,qqq0,qqq1]
  refine takeY (i:=20) (v:=?v40) ?hy40 ?rest40
  case hy40=>(intro wz hSz;(have hfz:=HW.out wz hSz);go_split_ands;(first|(go_simp;done)|(go_simp;with_reducible rfl)))
  try simp only [Act.put,qqqT,qqq0,qqq1]
  refine wpAnyH_ready (rs:=[19]) (by kernel_rfl) (by simp) ?_
  refine consL rfl (fun K hK=>?_) AllReadyH.nil
  go_simp
  refine (rule_Show _ RA r.length rc r (HGW.out.below HB35.out ql) (R7.out.below HB35.out ql) HSm.out).mono ?_
  rintro e w41c ⟨he,hb⟩
  rw [HTS.out] at he
  subst he
  have HB41:=qh (below_on HB35.out ql hb)
  clear hb
  dsimp only
  try clear hHeld
  refine hK.out _ _ (HB41.out) (fun hHeld=>?_)
  clear hK K
  try simp only [Act.put,qqqT,qqq0,qqq1]
  refine wpAnyH_ready (rs:=[21]) (by kernel_rfl) (by simp) ?_
  refine consL rfl (fun K hK=>?_) AllReadyH.nil
  go_simp
  refine (rule_Of _ RA r.length rc r (R7.out.below HB41.out ql) HSm.out).mono ?_
  rintro e w42c ⟨A42,n42,c42,rfl,hr,hb⟩
  have HB42:=qh (below_on HB41.out ql hb)
  have aq42:=qh hr
  clear hb hr
  dsimp only
  try clear hHeld
  refine hK.out _ _ (HB42.out) (fun hHeld=>?_)
  clear hK K
  try simp only [Act.put,qqqT,qqq0,qqq1]
  refine wpAnyH_ready (rs:=[22]) (by kernel_rfl) (by simp) ?_
  refine consL rfl (fun K hK=>?_) AllReadyH.nil
  go_simp
  refine (ref_ShowRule _ A42 n42 c42 r aq42.out HSm.out).mono ?_
  rintro e w43c ⟨he,hb⟩
  rw [HTS.out] at he
  subst he
  have HB43:=qh (below_on HB42.out ql hb)
  have aq43:=qh (aq42.out.below hb ql)
  clear hb
  dsimp only
  try clear hHeld
  refine hK.out _ _ (HB43.out) (fun hHeld=>?_)
  clear hK K
  try simp only [Act.put,qqqT,qqq0,qqq1]
  refine takeY (i:=23) (v:=?v44) ?hy44 ?rest44
  case hy44=>(intro wz hSz;(have hfz:=HW.out wz hSz);go_split_ands;(first|(go_simp;done)|(go_simp;with_reducible rfl)))
  try simp only [Act.put,qqqT,qqq0,qqq1]
  refine takeY (i:=24) (v:=?v45) ?hy45 ?rest45
  case hy45=>(intro wz hSz;(have hfz:=HW.out wz hSz);go_split_ands;(first|(go_simp;done)|(go_simp;with_reducible rfl)))
  try simp only [Act.put,qqqT,qqq0,qqq1]
  refine takeY (i:=25) (v:=?v46) ?hy46 ?rest46
  case hy46=>(intro wz hSz;(have hfz:=HW.out wz hSz);go_split_ands;(first|(go_simp;done)|(go_simp;with_reducible rfl)))
  try simp only [Act.put,qqqT,qqq0,qqq1]
  refine takeY (i:=26) (v:=?v47) ?hy47 ?rest47
  case hy47=>(intro wz hSz;(have hfz:=HW.out wz hSz);go_split_ands;(first|(go_simp;done)|(go_simp;with_reducible rfl)))
  try simp only [Act.put,qqqT,qqq0,qqq1]
  refine takeY (i:=27) (v:=?v48) ?hy48 ?rest48
  case hy48=>(intro wz hSz;(have hfz:=HW.out wz hSz);go_split_ands;(first|(go_simp;done)|(go_simp;with_reducible rfl)))
  try simp only [Act.put,qqqT,qqq0,qqq1]
  refine takeY (i:=29) (v:=?v49) ?hy49 ?rest49
  case hy49=>(intro wz hSz;(have hfz:=HW.out wz hSz);go_split_ands;(first|(go_simp;done)|(go_simp;with_reducible rfl)))
  try simp only [Act.put,qqqT,qqq0,qqq1]
  refine takeY (i:=31) (v:=?v50) ?hy50 ?rest50
  case hy50=>(intro wz hSz;(have hfz:=HW.out wz hSz);go_split_ands;(first|(go_simp;done)|(go_simp;with_reducible rfl)))
  try simp only [Act.put,qqqT,qqq0,qqq1]
  refine wpAnyH_ready (rs:=[28]) (by kernel_rfl) (by simp) ?_
  refine consL rfl (fun K hK=>?_) AllReadyH.nil
  go_simp
  refine (rule_Holds _ RA r.length rc r (HGW.out.below HB43.out ql) (R7.out.below HB43.out ql) HSm.out _ _ _ _ _ _ _ _ _ _ _ _ _ _ _ _ _ _ _ _ _ _ _ _ (OP7.out.below HB43.out ql) (by omega) (by omega)).mono ?_
  rintro e w51c ⟨he,hb⟩
  replace he:=he.trans (show _=Ending.returned (.bool vR) by rw [← HVR.out];rfl)
  subst he
  have HB51:=qh (below_on HB43.out ql hb)
  clear hb
  dsimp only
  try clear hHeld
  refine hK.out _ _ (HB51.out) (fun hHeld=>?_)
  clear hK K
  try simp only [Act.put,qqqT,qqq0,qqq1]
  refine wpAnyH_ready (rs:=[30]) (by kernel_rfl) (by simp) ?_
  refine consL rfl (fun K hK=>?_) AllReadyH.nil
  go_simp
  refine (rule_Of _ RA r.length rc r (R7.out.below HB51.out ql) HSm.out).mono ?_
  rintro e w52c ⟨A52,n52,c52,rfl,hr,hb⟩
  have HB52:=qh (below_on HB51.out ql hb)
  have aq52:=qh hr
  clear hb hr
  dsimp only
  try clear hHeld
  refine hK.out _ _ (HB52.out) (fun hHeld=>?_)
  clear hK K
  try simp only [Act.put,qqqT,qqq0,qqq1]
  refine wpAnyH_ready (rs:=[32]) (by kernel_rfl) (by simp) ?_
  refine consL rfl (fun K hK=>?_) AllReadyH.nil
  go_simp
  refine (ref_own _ b A l.length c l sc (X7l.out.below HB52.out ql) (by omega)).mono ?_
  rintro e w53c ⟨⟨pb53,pA53,pn53,pc53,rfl,hd⟩,hb⟩
  have HB53:=qh (below_on HB52.out ql hb)
  have aq53:=qh (aq52.out.below hb ql)
  have dq53:=qh hd
  clear hb hd
  dsimp only
  try clear hHeld
  refine hK.out _ _ (HB53.out) (fun hHeld=>?_)
  clear hK K
  try simp only [Act.put,qqqT,qqq0,qqq1]
  refine wpAnyH_ready (rs:=[33]) (by kernel_rfl) (by simp) ?_
  refine consL rfl (fun K hK=>?_) AllReadyH.nil
  go_simp
  refine (ref_Holds _ A52 n52 c52 r aq53.out HSm.out pb53 pA53 pn53 pc53 (decK b l sc) (decS b l sc) dq53.out HL4.out (decS_le _ _ _)).mono ?_
  rintro e w54c ⟨he,hb⟩
  rw [HVR.out] at he
  subst he
  have HB54:=qh (below_on HB53.out ql hb)
  have aq54:=qh (aq53.out.below hb ql)
  have dq54:=qh (dq53.out.below hb ql)
  clear hb
  dsimp only
  try clear hHeld
  refine hK.out _ _ (HB54.out) (fun hHeld=>?_)
  clear hK K
  try simp only [Act.put,qqqT,qqq0,qqq1]
  refine takeY (i:=34) (v:=?v55) ?hy55 ?rest55
  case hy55=>(intro wz hSz;(have hfz:=HW.out wz hSz);go_split_ands;(first|(go_simp;done)|(go_simp;with_reducible rfl)))
  try simp only [Act.put,qqqT,qqq0,qqq1]
  refine takeY (i:=35) (v:=?v56) ?hy56 ?rest56
  case hy56=>(intro wz hSz;(have hfz:=HW.out wz hSz);go_split_ands;(first|(go_simp;done)|(go_simp;with_reducible rfl)))
  try simp only [Act.put,qqqT,qqq0,qqq1]
  refine takeY (i:=36) (v:=?v57) ?hy57 ?rest57
  case hy57=>(intro wz hSz;(have hfz:=HW.out wz hSz);go_split_ands;(first|(go_simp;done)|(go_simp;with_reducible rfl)))
  try simp only [Act.put,qqqT,qqq0,qqq1]
  refine takeY (i:=37) (v:=?v58) ?hy58 ?rest58
  case hy58=>(intro wz hSz;(have hfz:=HW.out wz hSz);go_split_ands;(first|(go_simp;done)|(go_simp;with_reducible rfl)))
  try simp only [Act.put,qqqT,qqq0,qqq1]
  refine takeY (i:=38) (v:=?v59) ?hy59 ?rest59
  case hy59=>(intro wz hSz;(have hfz:=HW.out wz hSz);go_split_ands;(first|(go_simp;done)|(go_simp;with_reducible rfl)))
  try simp only [Act.put,qqqT,qqq0,qqq1]
  refine takeY (i:=40) (v:=?v60) ?hy60 ?rest60
  case hy60=>(intro wz hSz;(have hfz:=HW.out wz hSz);go_split_ands;(first|(go_simp;done)|(go_simp;with_reducible rfl)))
  try simp only [Act.put,qqqT,qqq0,qqq1]
  refine takeY (i:=41) (v:=?v61) ?hy61 ?rest61
  case hy61=>(intro wz hSz;(have hfz:=HW.out wz hSz);go_split_ands;(first|(go_simp;done)|(go_simp;with_reducible rfl)))
  try simp only [Act.put,qqqT,qqq0,qqq1]
  refine wpAnyH_ready (rs:=[39]) (by kernel_rfl) (by simp) ?_
  refine consL rfl (fun K hK=>?_) AllReadyH.nil
  go_simp
  refine (rule_Holds _ XA xn xc x (HGW.out.below HB54.out ql) (X7.out.below HB54.out ql) HSx.out _ _ _ _ _ _ _ _ _ _ _ _ _ _ _ _ _ _ _ _ _ _ _ _ (OP7.out.below HB54.out ql) (by omega) (by omega)).mono ?_
  rintro e w62c ⟨he,hb⟩
  replace he:=he.trans (show _=Ending.returned (.bool vX) by rw [← HVX.out];rfl)
  subst he
  have HB62:=qh (below_on HB54.out ql hb)
  clear hb
  dsimp only
  try clear hHeld
  refine hK.out _ _ (HB62.out) (fun hHeld=>?_)
  clear hK K
  try simp only [Act.put,qqqT,qqq0,qqq1]
  refine wpAnyH_ready (rs:=[42]) (by kernel_rfl) (by simp) ?_
  refine consL rfl (fun K hK=>?_) AllReadyH.nil
  go_simp
  refine (ref_own _ b A l.length c l sc (X7l.out.below HB62.out ql) (by omega)).mono ?_
  rintro e w63c ⟨⟨pb63,pA63,pn63,pc63,rfl,hd⟩,hb⟩
  have HB63:=qh (below_on HB62.out ql hb)
  have dq63:=qh hd
  clear hb hd
  dsimp only
  try clear hHeld
  refine hK.out _ _ (HB63.out) (fun hHeld=>?_)
  clear hK K
  try simp only [Act.put,qqqT,qqq0,qqq1]
  refine wpAnyH_ready (rs:=[43]) (by kernel_rfl) (by simp) ?_
  refine consL rfl (fun K hK=>?_) AllReadyH.nil
  go_simp
  refine (ref_Holds _ YA yn yc x (Y7.out.below HB63.out ql) HSx.out pb63 pA63 pn63 pc63 (decK b l sc) (decS b l sc) dq63.out HL4.out (decS_le _ _ _)).mono ?_
  rintro e w64c ⟨he,hb⟩
  rw [HVX.out] at he
  subst he
  have HB64:=qh (below_on HB63.out ql hb)
  have dq64:=qh (dq63.out.below hb ql)
  clear hb
  dsimp only
  try clear hHeld
  refine hK.out _ _ (HB64.out) (fun hHeld=>?_)
  clear hK K
  try simp only [Act.put,qqqT,qqq0,qqq1]
  refine takeY (i:=44) (v:=?v65) ?hy65 ?rest65
  case hy65=>(intro wz hSz;(have hfz:=HW.out wz hSz);go_split_ands;(first|(go_simp;done)|(go_simp;with_reducible rfl)))
  try simp only [Act.put,qqqT,qqq0,qqq1]
  refine takeY (i:=45) (v:=?v66) ?hy66 ?rest66
  case hy66=>(intro wz hSz;(have hfz:=HW.out wz hSz);go_split_ands;(first|(go_simp;done)|(go_simp;with_reducible rfl)))
  try simp only [Act.put,qqqT,qqq0,qqq1]
  refine wpAnyH_done (by kernel_rfl) ?_ _
  clear hHeld
  unfold TailQ
  go_wp2_with fail
  go_ret
  exact ⟨rfl,HB7.out.trans (HB64.out.mono HB7.out.size)⟩
end Go.Proofs.YtdgleeglndcjhaaGreatDoor
namespace Go
variable {H:Type} {enc:TypeId × Value→H}
theorem returnsInHanded_and_shaped {a:Assume} {C:Checked} {os:Os} {f:FuncId} {fn:Func} {s:ChangeSpec} {conds:List PathCond} {apart fresh handsOn again:Bool} {X:World→Array Value→Prop}
  (hX:∀ (w w':World) (args:Array Value),w.heap=w'.heap→X w args→X w' args)
  (own:ownKnob C.prog.godebug=none) (started:os.Started) (noInit:C.prog.inits.idxOf? f=none) (hfn:C.prog.funcs[f]?=some fn)
  (witness:∃ (w:World) (tape:Tape) (i:Input),w.os=os∧(w.forCall tape i).Shaped C.prog∧i.vars=[]∧Input.okWide C.prog (w.forCall tape i) .any w.heap.size f i ∧
   ((s.pre enc C.prog fn conds apart (w.forCall tape i).memory i.args∧X (w.forCall tape i).memory i.args)∧sizedMet enc C.prog fn (OpenSpec.ofChange s) apart (w.forCall tape i).memory i.args)∧a.holds C.prog (lone (Frame.enter C.prog f i.args .normal) [] (w.forCall tape i)))
  (contract:∀ (W:World) (base:Nat) (args:Array Value) (ds gs:List (DataW H)) (before:List MemPlace),
   (∀ (j:Nat) t v,fn.params[j]?=some t→args[j]?=some v→Value.okWide C.prog W .any base t v) →
   DataW.Whole enc C.prog fn.params.toList s.vars apart W args.toList ds gs before →
   X W args→W.ShapedOpen C.prog →
   Calls C.prog f args W fun e W'=>∃ v,e=.returned v∧s.post enc C.prog fn apart fresh handsOn again W args v W') :
  ReturnsInHanded a C os f .any (fun w args=>(s.pre enc C.prog fn conds apart w args∧X w args)∧sizedMet enc C.prog fn (OpenSpec.ofChange s) apart w args) (s.post enc C.prog fn apart fresh handsOn again):=by
 refine returnsInHanded_of_calls own started noInit witness ?_
 intro w tape i _ hsh _ hok hpre hholds
 obtain ⟨_,_,_,fn',hfn',_,_,_,_,hval⟩:=hok
 have e:fn'=fn:=Option.some.inj (hfn'.symm.trans hfn)
 subst e
 obtain ⟨⟨⟨ds,gs,before,hw,hc⟩,hx⟩,hz⟩:=hpre
 have hw':=DataW.Whole.of_heap (w':=w.forCall tape i) (by rfl) hw
 refine (contract (w.forCall tape i) w.heap.size i.args ds gs before hval hw' (hX _ _ _ (by rfl) hx) hsh).mono fun e W' ⟨v,he,hp⟩=>?_
 subst he
 exact ChangeSpec.post_blind hp
end Go
namespace Go.Proofs.YtdgleeglndcjhaaGreatDoor
open Go.ChangeShapes Go.WideShapes Go.ChangeAt Go.RowKit
open Go.ChangeMaps (open_string shut_string)
theorem Tryz.own:ownKnob Tryz.prog.godebug=none:=by kernel_rfl
theorem Tryz.laidOut:laidOutB Tryz.prog=true:=by kernel_rfl
def laidL:List (String × DataW Unit):=Rows.ruleNotRow.laid
mutual
def flatD:DataW Unit→List Value
 | .lit (.int k n)=>[.int k n]
 | .agg ds=>flatDs ds
 | _=>[]
def flatDs:List (DataW Unit)→List Value
 | []=>[]
 | d :: ds=>flatD d ++ flatDs ds
end
abbrev rangeS:ByteArray:={ data:=#[118,97,108,117,101,32,111,117,116,32,111,102,32,114,97,110,103,101] }
abbrev synS:ByteArray:={ data:=#[105,110,118,97,108,105,100,32,115,121,110,116,97,120] }
noncomputable def low:Nat:=(World.holding Tryz.prog default ⟨#[],#[],[]⟩).heap.size
def layAt (g:Nat) (cs:List Value) (h:Array Obj):Array Obj:=h.modify g fun
 | .cells _ t frozen=>.cells cs.toArray t frozen
 | o=>o
noncomputable def laidWorld (os:Os):World :=
 let w0:=World.holding Tryz.prog os ⟨#[.cells #[.string rangeS] 308,.cells #[.string synS] 308],#[],[]⟩
 { w0 with heap:=layAt 1 (flatD Rows.laid_unicode_utf8_first) (layAt 2 (flatD Rows.laid_unicode_utf8_acceptRanges) (layAt 3 [.iface 306 (.pointer (some ⟨low+1,0,none⟩))] (layAt 4 [.iface 306 (.pointer (some ⟨low,0,none⟩))]
   (layAt 5 (flatD Rows.laid_internal_strconv_uint64pow10) (layAt 6 (flatD Rows.laid_math_bits_deBruijn32tab) (layAt 7 (flatD Rows.laid_math_bits_deBruijn64tab) w0.heap)))))) }
theorem laidWorld_met (os:Os) (args:Array Value):laidMet Tryz.prog laidL ((laidWorld os).forCall (fun _ _=>0) ⟨#[],args,[]⟩).memory :=
 laidMet_of_run' 8 (by kernel_rfl) (by kernel_rfl)
open Go.ChangeMaps (open_string shut_string)
theorem maxLen_row:(((begin Tryz.prog (fun _ _=>0) default).world.heap[0]?).bind Obj.row?)=some (#[.int .i64 0],3):=by kernel_rfl
theorem gw_of {W:World} (h:W.ShapedOpen Tryz.prog) (hL:laidMet Tryz.prog laidL W):GW W:=by
 refine ⟨cell_of_shapedOpen_int h (of_decide_eq_true (by kernel_rfl)) maxLen_row rfl (by kernel_rfl) (by kernel_rfl) Tryz.underlying3,?_⟩
 exact Lib.tabIs_of_head pow10_named (t:=309) (e:=50) (n:=20) (by kernel_rfl) (by kernel_rfl) Tryz.underlying50 (by kernel_rfl) (by kernel_rfl) (hL.tail.tail)
theorem open_words {H:Type} {enc:TypeId × Value→H} {W:World} {n:Nat} {v:Value} {y:DataW H × List MemPlace} (h:DataW.trod enc Tryz.prog W 0 (fun _=>true) true n 22 [v]=some y) :
  ∃ A k c l,v=.slice A k c∧RL W (.slice A k c) l:=by
 rcases open_ints Tryz.underlying22 Tryz.underlying43 (by kernel_rfl) h with ⟨hcs,-⟩|⟨a,len,cap,zs,hcs,-,hl,-,hz,-,hcell,hwz⟩
 ·obtain rfl:v=.slice none 0 0:=by simpa using hcs
  exact ⟨none,0,0,[],rfl,SlC.nil _ _ _ _,Wd.nil⟩
 ·obtain rfl:v=.slice (some a) len cap:=by simpa using hcs
  rw [if_pos rfl] at hz
  have wz:∀ z ∈ zs,0≤z∧z<4294967296:=fun z h=>by
   have h5:=hwz z h
   have e1:IntKind.u32.min=0:=rfl
   have e2:IntKind.u32.max=4294967295:=rfl
   simp only [Lit.wf,e1,e2,Bool.and_eq_true,decide_eq_true_eq] at h5
   omega
  refine ⟨some a,len,cap,(zs.take len).map Int.toNat,rfl,?_,?_⟩
  ·have hlen:((zs.take len).map Int.toNat).length=len:=by simp;omega
   rw [hlen]
   refine ⟨some a,cap,rfl,hl,by simp [U32];omega,fun hp=>?_⟩
   obtain ⟨b,off,spot⟩:=a
   have hspot:spot=none:=by
    have hz0:0<zs.length:=by
     simp [U32] at hp
     rcases Nat.eq_zero_or_pos zs.length with h0|h0
     ·omega
     ·exact h0
    simpa [Addr.add] using World.cell?_spot (hcell 0 hz0)
   subst hspot
   refine ⟨b,off,rfl,fun j x hx=>?_⟩
   simp only [U32,List.map_map,List.getElem?_map,Option.map_eq_some_iff,Function.comp] at hx
   obtain ⟨z,hz1,rfl⟩:=hx
   have hj:j<(zs.take len).length:=(List.getElem?_eq_some_iff.1 hz1).1
   have hj2:j<zs.length:=by rw [List.length_take] at hj;omega
   have hzj:zs[j]?=some z:=by
    rw [List.getElem?_take] at hz1
    split at hz1
    ·exact hz1
    ·cases hz1
   have:=hcell j hj2
   rw [← add_plain,this,List.getD_eq_getElem?_getD,hzj]
   have:=wz z (List.mem_of_getElem? hzj)
   simp [Int.toNat_of_nonneg this.1]
  ·intro x hx
   obtain ⟨z,hz1,rfl⟩:=List.mem_map.1 hx
   have:=wz z (List.mem_of_mem_take hz1)
   omega
theorem open_dec {H:Type} {enc:TypeId × Value→H} {W:World} {base:Nat} {v:Value} {d:DataW H} {p:List MemPlace} (hv:Value.okWide Tryz.prog W .any base 26 v) (h:DataW.Trod enc Tryz.prog W 0 (fun _=>true) true 26 v d p) :
  ∃ b A n c l sc,v=.agg #[.bool b,.slice A n c,.int .i64 sc]∧RL W (.slice A n c) l:=by
 obtain ⟨v0,v1,v2,y0,y1,y2,n,rfl,-,-,h0,h1,h2⟩:=Joins.open_agg3 Tryz.underlying26 (by kernel_rfl) (by kernel_rfl) hv h
 obtain ⟨b,rfl⟩:∃ b,v0=.bool b:=by
  obtain ⟨b,hb,-⟩:=DataW.trod_bool Tryz.underlying4 h0
  exact ⟨b,by simpa using hb⟩
 obtain ⟨z,rfl⟩:∃ z,v2=.int .i64 z:=by
  obtain ⟨z,hz,-⟩:=DataW.trod_int Tryz.underlying3 h2
  exact ⟨z,by simpa using hz⟩
 obtain ⟨xs,m,hn,-,-,hlen,hf⟩:=DataW.trod_struct Tryz.underlying24 h1
 match xs,hlen with
 | [y],_ =>
  have h3:=hf 0 _ rfl
  obtain ⟨A,k,c,l,rfl,hl⟩:=open_words (enc:=enc) (n:=m) (v:=v1) (y:=y) (by simpa [show Tryz.prog.cellsOf 22=1 by kernel_rfl] using h3)
  exact ⟨b,A,k,c,l,z,rfl,hl⟩
end Go.Proofs.YtdgleeglndcjhaaGreatDoor
