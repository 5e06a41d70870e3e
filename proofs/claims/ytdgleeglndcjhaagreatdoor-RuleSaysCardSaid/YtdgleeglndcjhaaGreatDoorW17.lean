import Derived.Test.YtdgleeglndcjhaaGreatDoorW16
set_option linter.unusedSimpArgs false
set_option linter.unusedVariables false
set_option maxHeartbeats 2000000
set_option maxRecDepth 100000
namespace Go.Proofs.YtdgleeglndcjhaaGreatDoor
open Go.RowKit
def RetQX (e:Ending) (w':World) (p:Int) (q:Nat):Prop:=∃ b A n c A' n' c',e=.returned (.agg #[.bool b,.slice A n c,.slice A' n' c'])∧RZ w' b A n c p∧SN w' A' n' c' q
theorem rat_IntX (w:World) (n:Nat) (hn:n<9223372036854775808) :
  Calls Tryz.prog 94 #[.int .i64 n] w fun e w'=>RetQX e w' n 1∧Below w.heap.size w w':=by
 have HN:=qh hn
 clear hn
 go_enter Tryz.func94,Tryz.ntmps94
 go_wp2_with fail
 refine calls_letter (fun w1=>Blk w1 w.heap.size 37 [.bool false,.slice none 0 0,.slice none 0 0]∧Below w.heap.size w w1) ⟨(Blk.made _ 37 _ _ _ (by simp) rfl),((Below.refl _ _).alloc (by simp;try omega) _)⟩ ?_
 rintro w1 ⟨b0,hb⟩
 obtain ⟨k00,k01,k02⟩:=b0.c3
 have HB:=qh hb
 have H0:=qh b0
 have hz:=b0.lt
 clear hb b0
 refine (num_Of _ n HN.out).mono ?_
 rintro e w2 ⟨⟨b2,A2,n2,c2,rfl,hr⟩,hb2⟩
 clear k00 k01 k02
 dsimp only
 go_wp2_with fail
 refine (rat_one _).mono ?_
 rintro e w3 ⟨⟨A3,n3,c3,rfl,hr3⟩,hb3⟩
 have HSt:Hid (Hold w1 w.heap.size 37 3 w1):=Hold.start H0.out (by simp [No32])
 have hh0:=((HSt.out.call hb2).call hb3)
 have k0:=hh0.cell 0 (by omega)
 have f0:=hh0.frozen 0
 have k1:=hh0.cell 1 (by omega)
 have f1:=hh0.frozen 1
 have k2:=hh0.cell 2 (by omega)
 have f2:=hh0.frozen 2
 have hr2:=hr.below hb3 ql
 dsimp only
 go_wp2_with fail
 have hh:=((HSt.out.call hb2).call hb3)
 have hf:=hh.fill3 (.bool b2) (.slice A2 n2 c2) (.slice A3 n3 c3)
 have hg:=(((hh.set 0 (.bool b2) (by simp)).set 1 (.slice A2 n2 c2) (by simp)).set 2 (.slice A3 n3 c3) (by simp))
 have hs:=(((hr2.sn.hset hh 0 (.bool b2)).hset (hh.set 0 (.bool b2) (by simp)) 1 (.slice A2 n2 c2)).hset ((hh.set 0 (.bool b2) (by simp)).set 1 (.slice A2 n2 c2) (by simp)) 2 (.slice A3 n3 c3))
 have hs2:=(((hr3.hset hh 0 (.bool b2)).hset (hh.set 0 (.bool b2) (by simp)) 1 (.slice A2 n2 c2)).hset ((hh.set 0 (.bool b2) (by simp)).set 1 (.slice A2 n2 c2) (by simp)) 2 (.slice A3 n3 c3))
 obtain ⟨r0,r1,r2⟩:=hf.c3
 generalize (((w3.setCell ⟨w.heap.size,0,none⟩ (.bool b2)).setCell ⟨w.heap.size,1,none⟩ (.slice A2 n2 c2)).setCell ⟨w.heap.size,2,none⟩ (.slice A3 n3 c3))=wf at *
 refine bodyPost_ret (v:=.agg #[.bool b2,.slice A2 n2 c2,.slice A3 n3 c3]) (by simp [results,Tryz.results94,go_sem,r0,r1,r2];try rfl) rfl ?_
 exact ⟨⟨_,_,_,_,_,_,_,rfl,⟨hr2.sign,hs⟩,hs2⟩,HB.out.trans (hg.below (by omega))⟩
theorem oper_whole (w:World) (A:Option Addr) (n c k m:Nat) (h:SN w A n c k) (hk:k<2 ^ m) (hm:0<m) :
  Calls Tryz.prog 143 #[.agg #[.slice A n c]] w fun e w'=>RetQ e w' k 1 m∧Below w.heap.size w w':=by
 have HX:=qh h
 have HK:=qh hk
 have HM:=qh hm
 clear h hk hm
 go_enter Tryz.func143,Tryz.ntmps143
 go_wp2_with fail
 refine calls_letter (fun w1=>Blk w1 w.heap.size 24 [.slice A n c]∧Blk w1 (w.heap.size+1) 37 [.bool false,.slice none 0 0,.slice none 0 0]∧Below w.heap.size w w1) ⟨((Blk.made _ 24 _ _ _ (by simp) rfl).alloc _),(Blk.made _ 37 _ _ _ (by simp) rfl),(((Below.refl _ _).alloc (by simp;try omega) _).alloc (by simp;try omega) _)⟩ ?_
 rintro w1 ⟨b0,b1,hb⟩
 have k00:=b0.c1
 obtain ⟨k10,k11,k12⟩:=b1.c3
 have HB:=qh hb
 have H0:=qh b0
 have H1:=qh b1
 have hz:=b1.lt
 clear hb b0 b1
 refine (rat_IntX _ 0 (by omega)).mono ?_
 rintro e w2 ⟨⟨b2,A2,n2,c2,A3,n3,c3,rfl,hr,hr3⟩,hb2⟩
 have hz2:=hb2.size
 have eb:b2=false:=by rw [hr.sign];simp
 subst eb
 have d0:=(H0.out.below hb2 (by omega)).alloc (.cells #[.bool false,.slice A2 n2 c2,.slice A3 n3 c3] 37)
 have d1:=(H1.out.below hb2 (by omega)).alloc (.cells #[.bool false,.slice A2 n2 c2,.slice A3 n3 c3] 37)
 have d2:=Blk.made w2 37 [.bool false,.slice A2 n2 c2,.slice A3 n3 c3] w2.heap.size #[.bool false,.slice A2 n2 c2,.slice A3 n3 c3] rfl rfl
 have hba:Below w2.heap.size w2 (w2.alloc (.cells #[.bool false,.slice A2 n2 c2,.slice A3 n3 c3] 37)):=(Below.refl _ _).alloc ql _
 have S1:=((HX.out.below HB.out ql).below hb2 ql).below hba ql
 have S3:=hr3.below hba ql
 have HB4:=qh ((HB.out.trans (hb2.mono HB.out.size)).trans (hba.mono (by omega)))
 have m0:=d0.c1
 clear k00 k10 k11 k12
 dsimp only
 go_upto_region 2 with fail
 generalize hg:w2.heap.size=g at *
 refine wp_letter (fun w4=>Blk w4 w.heap.size 24 [.slice A n c]∧Blk w4 (w.heap.size+1) 37 [.bool false,.slice none 0 0,.slice none 0 0]∧Blk w4 g 37 [.bool false,.slice A2 n2 c2,.slice A3 n3 c3]∧SN w4 A n c k∧SN w4 A3 n3 c3 1∧Below w.heap.size w w4) ⟨d0,d1,d2,S1,S3,HB4.out⟩ ?_
 clear d0 d1 d2 hba S1 S3 HB4 m0 hr hr3 hb2 hg H0 H1 HB
 rintro w4 ⟨d0,d1,d2,s1,s3,hb⟩
 have m0:=d0.c1
 obtain ⟨m1,m2,m3⟩:=d1.c3
 obtain ⟨n0,n1,n2'⟩:=d2.c3
 have e0:=d1.frozen 0
 have e1:=d1.frozen 1
 have e2:=d1.frozen 2
 have e3:=d2.frozen 1
 have hgg:w.heap.size+1<g:=by omega
 have x1:=d1.far ⟨g,1,none⟩ (.slice A n c) (by simp;omega)
 have x2:=d2.put 1 (.slice A n c)
 have hd2:Hold w4 g 37 3 w4:=Hold.start d2 (by simp [No32])
 have y1:=s1.hset hd2 1 (.slice A n c)
 have y3:=s3.hset hd2 1 (.slice A n c)
 have hB5:=hb.setCell (p:=⟨g,1,none⟩) (by show w.heap.size≤g;omega) (.slice A n c)
 simp only [qqq0,qqq1] at x2
 have X1:=qh x1
 have X2:=qh x2
 have Y1:=qh y1
 have Y3:=qh y3
 have HB5:=qh hB5
 clear x1 y1 y3 hB5 d0 d1 d2 s1 s3 hb hd2
 go_upto_region 3 with fail
 clear x2 m0 m1 m2 m3 n0 n1 n2' e0 e1 e2 e3
 generalize (w4.setCell ⟨g,1,none⟩ (.slice A n c))=w5 at *
 obtain ⟨m1,m2,m3⟩:=X1.out.c3
 obtain ⟨n0,n1,n2'⟩:=X2.out.c3
 have e0:=X1.out.frozen 0
 have e1:=X1.out.frozen 1
 have e2:=X1.out.frozen 2
 have HSt:Hid (Hold w5 (w.heap.size+1) 37 3 w5):=Hold.start X1.out (by simp [No32])
 go_wp2_with fail
 have hh:=HSt.out
 have hf:=hh.fill3 (.bool false) (.slice A n c) (.slice A3 n3 c3)
 have hg:=(((hh.set 0 (.bool false) (by simp)).set 1 (.slice A n c) (by simp)).set 2 (.slice A3 n3 c3) (by simp))
 have hs:=(((Y1.out.hset hh 0 (.bool false)).hset (hh.set 0 (.bool false) (by simp)) 1 (.slice A n c)).hset ((hh.set 0 (.bool false) (by simp)).set 1 (.slice A n c) (by simp)) 2 (.slice A3 n3 c3))
 have hs3:=(((Y3.out.hset hh 0 (.bool false)).hset (hh.set 0 (.bool false) (by simp)) 1 (.slice A n c)).hset ((hh.set 0 (.bool false) (by simp)).set 1 (.slice A n c) (by simp)) 2 (.slice A3 n3 c3))
 obtain ⟨r0,r1,r2⟩:=hf.c3
 generalize (((w5.setCell ⟨w.heap.size+1,0,none⟩ (.bool false)).setCell ⟨w.heap.size+1,1,none⟩ (.slice A n c)).setCell ⟨w.heap.size+1,2,none⟩ (.slice A3 n3 c3))=wf at *
 refine bodyPost_ret (v:=.agg #[.bool false,.slice A n c,.slice A3 n3 c3]) (by simp [results,Tryz.results143,go_sem,r0,r1,r2];try rfl) rfl ?_
 exact ⟨⟨_,_,_,_,_,_,_,rfl,⟨⟨k,1,by omega,by omega,rfl,⟨by simp,by simpa using hs⟩,hs3,by simpa using HK.out,Nat.one_lt_two_pow (by have:=HM.out;omega)⟩⟩⟩,HB5.out.trans (hg.below (by omega))⟩
structure OpR (w:World) (b:Bool) (A:Option Addr) (n c:Nat) (A':Option Addr) (n' c':Nat) (iA:Option Addr) (il ic:Nat) (fA:Option Addr) (fl fc:Nat) (tA:Option Addr) (tl tc:Nat) (k s m i v u f t:Nat):Prop where
 hn:RF w b A n c A' n' c' k s m
 hi:SN w iA il ic i
 hf:SN w fA fl fc f
 ht:SN w tA tl tc t
 hil:i<2 ^ m
 hfl:f<2 ^ m
 htl:t<2 ^ m
 hv:v≤1000
 hu:u≤1000
theorem OpR.below {w w':World} {b:Bool} {A A' iA fA tA:Option Addr} {n c n' c' il ic fl fc tl tc k s m i v u f t B:Nat} (h:OpR w b A n c A' n' c' iA il ic fA fl fc tA tl tc k s m i v u f t) (hb:Below B w w') (hB:w.heap.size≤B):OpR w' b A n c A' n' c' iA il ic fA fl fc tA tl tc k s m i v u f t :=
 ⟨h.hn.below hb hB,h.hi.below hb hB,h.hf.below hb hB,h.ht.below hb hB,h.hil,h.hfl,h.htl,h.hv,h.hu⟩
def opVal (k s i v u f t:Nat) (l:Nat):Nat × Nat :=
 if l=110 then (k,s) else if l=105 then (i,1) else if l=118 then (v,1) else if l=119 then (u,1) else if l=102 then (f,1) else if l=116 then (t,1) else (0,1)
def RetQO (e:Ending) (w':World) (p:Int) (q k:Nat):Prop:=∃ b A n c A' n' c' ok,e=.returned (.tuple #[.agg #[.bool b,.slice A n c,.slice A' n' c'],.bool ok])∧RF w' b A n c A' n' c' p q k
theorem oper_Value (w:World) (b:Bool) (A A' iA fA tA:Option Addr) (n c n' c' il ic fl fc tl tc k s m i v u f t l:Nat) (h:OpR w b A n c A' n' c' iA il ic fA fl fc tA tl tc k s m i v u f t) (hm:63≤m) (hm2:m≤100000) :
  Calls Tryz.prog 92 #[.agg #[.bool b,.slice A n c,.slice A' n' c',.slice iA il ic,.int .i64 v,.int .i64 u,.slice fA fl fc,.slice tA tl tc],.int .u8 l] w fun e w'=>RetQO e w' (opVal k s i v u f t l).1 (opVal k s i v u f t l).2 m∧Below w.heap.size w w':=by
 have HX:=qh h
 have HM:=qh hm
 have HM2:=qh hm2
 clear h hm hm2
 have HP:Hid ((opVal k s i v u f t l)=opVal k s i v u f t l):=rfl
 go_enter Tryz.func92,Tryz.ntmps92
 go_upto_region 1 with fail
 refine wp_letter (fun w1=>Blk w1 w.heap.size 39 [.bool b,.slice A n c,.slice A' n' c',.slice iA il ic,.int .i64 v,.int .i64 u,.slice fA fl fc,.slice tA tl tc]∧Blk w1 (w.heap.size+1) 37 [.bool false,.slice none 0 0,.slice none 0 0]∧Below w.heap.size w w1) ⟨((Blk.made _ 39 _ _ _ (by simp) rfl).alloc _),(Blk.made _ 37 _ _ _ (by simp) rfl),(((Below.refl _ _).alloc (by simp;try omega) _).alloc (by simp;try omega) _)⟩ ?_
 rintro w1 ⟨b0,b1,hb⟩
 obtain ⟨k00,k01,k02,k03,k04,k05,k06,k07⟩:=b0.c8
 obtain ⟨k10,k11,k12,f10,f11,f12⟩:=b1.cf3
 have HB:=qh hb
 have H0:=qh b0
 have H1:=qh b1
 have hz:=b1.lt
 clear hb b0 b1
 have HX1:=qh (HX.out.below HB.out ql)
 have HSt:Hid (Hold w1 (w.heap.size+1) 37 3 w1):=Hold.start H1.out (by simp [No32])
 by_cases hl:l=110
 ·have eo:opVal k s i v u f t l=(k,s):=by subst hl;rfl
  have EO:=qh eo
  subst hl
  clear eo
  go_wp2_with fail
  have hh:=HSt.out
  have hf:=hh.fill3 (.bool b) (.slice A n c) (.slice A' n' c')
  have hg:=(((hh.set 0 (.bool b) (by simp)).set 1 (.slice A n c) (by simp)).set 2 (.slice A' n' c') (by simp))
  have T:∀ {A0:Option Addr} {m0 c0 k0:Nat},SN w1 A0 m0 c0 k0→SN (((w1.setCell ⟨w.heap.size+1,0,none⟩ (.bool b)).setCell ⟨w.heap.size+1,1,none⟩ (.slice A n c)).setCell ⟨w.heap.size+1,2,none⟩ (.slice A' n' c')) A0 m0 c0 k0:=fun hs=>(((hs.hset hh 0 (.bool b)).hset (hh.set 0 (.bool b) (by simp)) 1 (.slice A n c)).hset ((hh.set 0 (.bool b) (by simp)).set 1 (.slice A n c) (by simp)) 2 (.slice A' n' c'))
  obtain ⟨r0,r1,r2⟩:=hf.c3
  generalize (((w1.setCell ⟨w.heap.size+1,0,none⟩ (.bool b)).setCell ⟨w.heap.size+1,1,none⟩ (.slice A n c)).setCell ⟨w.heap.size+1,2,none⟩ (.slice A' n' c'))=wf at *
  refine bodyPost_ret (v:=.tuple #[.agg #[.bool b,.slice A n c,.slice A' n' c'],.bool true]) (by simp [results,Tryz.results92,go_sem,r0,r1,r2];try rfl) rfl ?_
  exact ⟨⟨_,_,_,_,_,_,_,_,rfl,by rw [EO.out];exact (HX1.out.hn.map T)⟩,HB.out.trans (hg.below (by omega))⟩
 ·have e110:((l:Int) == 110)=false:=by rw [beq_eq_false_iff_ne];omega
  have h110:=qh hl
  clear hl
  by_cases hl:l=105
  ·have eo:opVal k s i v u f t l=(i,1):=by subst hl;rfl
   have EO:=qh eo
   subst hl
   clear eo
   go_wp2_with fail
   refine (oper_whole _ iA il ic i m HX1.out.hi HX1.out.hil (by have:=HM.out;omega)).mono ?_
   rintro e w2 ⟨⟨b2,A2,n2,c2,A3,n3,c3,rfl,hr⟩,hb2⟩
   have hh0:=HSt.out.call hb2
   clear k00 k01 k02 k03 k04 k05 k06 k07 k10 k11 k12 f10 f11 f12
   have k0:=hh0.cell 0 (by omega)
   have f0:=hh0.frozen 0
   have k1:=hh0.cell 1 (by omega)
   have f1:=hh0.frozen 1
   have k2:=hh0.cell 2 (by omega)
   have f2:=hh0.frozen 2
   dsimp only
   go_wp2_with fail
   have hh:=(HSt.out.call hb2)
   have hf:=hh.fill3 (.bool b2) (.slice A2 n2 c2) (.slice A3 n3 c3)
   have hg:=(((hh.set 0 (.bool b2) (by simp)).set 1 (.slice A2 n2 c2) (by simp)).set 2 (.slice A3 n3 c3) (by simp))
   have T:∀ {A0:Option Addr} {m0 c0 k0:Nat},SN w2 A0 m0 c0 k0→SN (((w2.setCell ⟨w.heap.size+1,0,none⟩ (.bool b2)).setCell ⟨w.heap.size+1,1,none⟩ (.slice A2 n2 c2)).setCell ⟨w.heap.size+1,2,none⟩ (.slice A3 n3 c3)) A0 m0 c0 k0:=fun hs=>(((hs.hset hh 0 (.bool b2)).hset (hh.set 0 (.bool b2) (by simp)) 1 (.slice A2 n2 c2)).hset ((hh.set 0 (.bool b2) (by simp)).set 1 (.slice A2 n2 c2) (by simp)) 2 (.slice A3 n3 c3))
   obtain ⟨r0,r1,r2⟩:=hf.c3
   generalize (((w2.setCell ⟨w.heap.size+1,0,none⟩ (.bool b2)).setCell ⟨w.heap.size+1,1,none⟩ (.slice A2 n2 c2)).setCell ⟨w.heap.size+1,2,none⟩ (.slice A3 n3 c3))=wf at *
   refine bodyPost_ret (v:=.tuple #[.agg #[.bool b2,.slice A2 n2 c2,.slice A3 n3 c3],.bool true]) (by simp [results,Tryz.results92,go_sem,r0,r1,r2];try rfl) rfl ?_
   exact ⟨⟨_,_,_,_,_,_,_,_,rfl,by rw [EO.out];exact (hr.map T)⟩,HB.out.trans (hg.below (by omega))⟩
  ·have e105:((l:Int) == 105)=false:=by rw [beq_eq_false_iff_ne];omega
   have h105:=qh hl
   clear hl
   by_cases hl:l=118
   ·have eo:opVal k s i v u f t l=(v,1):=by subst hl;rfl
    have EO:=qh eo
    subst hl
    clear eo
    go_wp2_with fail
    refine (rat_Int _ v (by have:=HX1.out.hv;omega)).mono ?_
    rintro e w2 ⟨⟨b2,A2,n2,c2,A3,n3,c3,rfl,hr⟩,hb2⟩
    have hh0:=HSt.out.call hb2
    clear k00 k01 k02 k03 k04 k05 k06 k07 k10 k11 k12 f10 f11 f12
    have k0:=hh0.cell 0 (by omega)
    have f0:=hh0.frozen 0
    have k1:=hh0.cell 1 (by omega)
    have f1:=hh0.frozen 1
    have k2:=hh0.cell 2 (by omega)
    have f2:=hh0.frozen 2
    dsimp only
    go_wp2_with fail
    have hh:=(HSt.out.call hb2)
    have hf:=hh.fill3 (.bool b2) (.slice A2 n2 c2) (.slice A3 n3 c3)
    have hg:=(((hh.set 0 (.bool b2) (by simp)).set 1 (.slice A2 n2 c2) (by simp)).set 2 (.slice A3 n3 c3) (by simp))
    have T:∀ {A0:Option Addr} {m0 c0 k0:Nat},SN w2 A0 m0 c0 k0→SN (((w2.setCell ⟨w.heap.size+1,0,none⟩ (.bool b2)).setCell ⟨w.heap.size+1,1,none⟩ (.slice A2 n2 c2)).setCell ⟨w.heap.size+1,2,none⟩ (.slice A3 n3 c3)) A0 m0 c0 k0:=fun hs=>(((hs.hset hh 0 (.bool b2)).hset (hh.set 0 (.bool b2) (by simp)) 1 (.slice A2 n2 c2)).hset ((hh.set 0 (.bool b2) (by simp)).set 1 (.slice A2 n2 c2) (by simp)) 2 (.slice A3 n3 c3))
    obtain ⟨r0,r1,r2⟩:=hf.c3
    generalize (((w2.setCell ⟨w.heap.size+1,0,none⟩ (.bool b2)).setCell ⟨w.heap.size+1,1,none⟩ (.slice A2 n2 c2)).setCell ⟨w.heap.size+1,2,none⟩ (.slice A3 n3 c3))=wf at *
    refine bodyPost_ret (v:=.tuple #[.agg #[.bool b2,.slice A2 n2 c2,.slice A3 n3 c3],.bool true]) (by simp [results,Tryz.results92,go_sem,r0,r1,r2];try rfl) rfl ?_
    exact ⟨⟨_,_,_,_,_,_,_,_,rfl,by rw [EO.out];exact ((hr.mono HM.out).map T)⟩,HB.out.trans (hg.below (by omega))⟩
   ·have e118:((l:Int) == 118)=false:=by rw [beq_eq_false_iff_ne];omega
    have h118:=qh hl
    clear hl
    by_cases hl:l=119
    ·have eo:opVal k s i v u f t l=(u,1):=by subst hl;rfl
     have EO:=qh eo
     subst hl
     clear eo
     go_wp2_with fail
     refine (rat_Int _ u (by have:=HX1.out.hu;omega)).mono ?_
     rintro e w2 ⟨⟨b2,A2,n2,c2,A3,n3,c3,rfl,hr⟩,hb2⟩
     have hh0:=HSt.out.call hb2
     clear k00 k01 k02 k03 k04 k05 k06 k07 k10 k11 k12 f10 f11 f12
     have k0:=hh0.cell 0 (by omega)
     have f0:=hh0.frozen 0
     have k1:=hh0.cell 1 (by omega)
     have f1:=hh0.frozen 1
     have k2:=hh0.cell 2 (by omega)
     have f2:=hh0.frozen 2
     dsimp only
     go_wp2_with fail
     have hh:=(HSt.out.call hb2)
     have hf:=hh.fill3 (.bool b2) (.slice A2 n2 c2) (.slice A3 n3 c3)
     have hg:=(((hh.set 0 (.bool b2) (by simp)).set 1 (.slice A2 n2 c2) (by simp)).set 2 (.slice A3 n3 c3) (by simp))
     have T:∀ {A0:Option Addr} {m0 c0 k0:Nat},SN w2 A0 m0 c0 k0→SN (((w2.setCell ⟨w.heap.size+1,0,none⟩ (.bool b2)).setCell ⟨w.heap.size+1,1,none⟩ (.slice A2 n2 c2)).setCell ⟨w.heap.size+1,2,none⟩ (.slice A3 n3 c3)) A0 m0 c0 k0:=fun hs=>(((hs.hset hh 0 (.bool b2)).hset (hh.set 0 (.bool b2) (by simp)) 1 (.slice A2 n2 c2)).hset ((hh.set 0 (.bool b2) (by simp)).set 1 (.slice A2 n2 c2) (by simp)) 2 (.slice A3 n3 c3))
     obtain ⟨r0,r1,r2⟩:=hf.c3
     generalize (((w2.setCell ⟨w.heap.size+1,0,none⟩ (.bool b2)).setCell ⟨w.heap.size+1,1,none⟩ (.slice A2 n2 c2)).setCell ⟨w.heap.size+1,2,none⟩ (.slice A3 n3 c3))=wf at *
     refine bodyPost_ret (v:=.tuple #[.agg #[.bool b2,.slice A2 n2 c2,.slice A3 n3 c3],.bool true]) (by simp [results,Tryz.results92,go_sem,r0,r1,r2];try rfl) rfl ?_
     exact ⟨⟨_,_,_,_,_,_,_,_,rfl,by rw [EO.out];exact ((hr.mono HM.out).map T)⟩,HB.out.trans (hg.below (by omega))⟩
    ·have e119:((l:Int) == 119)=false:=by rw [beq_eq_false_iff_ne];omega
     have h119:=qh hl
     clear hl
     by_cases hl:l=102
     ·have eo:opVal k s i v u f t l=(f,1):=by subst hl;rfl
      have EO:=qh eo
      subst hl
      clear eo
      go_wp2_with fail
      refine (oper_whole _ fA fl fc f m HX1.out.hf HX1.out.hfl (by have:=HM.out;omega)).mono ?_
      rintro e w2 ⟨⟨b2,A2,n2,c2,A3,n3,c3,rfl,hr⟩,hb2⟩
      have hh0:=HSt.out.call hb2
      clear k00 k01 k02 k03 k04 k05 k06 k07 k10 k11 k12 f10 f11 f12
      have k0:=hh0.cell 0 (by omega)
      have f0:=hh0.frozen 0
      have k1:=hh0.cell 1 (by omega)
      have f1:=hh0.frozen 1
      have k2:=hh0.cell 2 (by omega)
      have f2:=hh0.frozen 2
      dsimp only
      go_wp2_with fail
      have hh:=(HSt.out.call hb2)
      have hf:=hh.fill3 (.bool b2) (.slice A2 n2 c2) (.slice A3 n3 c3)
      have hg:=(((hh.set 0 (.bool b2) (by simp)).set 1 (.slice A2 n2 c2) (by simp)).set 2 (.slice A3 n3 c3) (by simp))
      have T:∀ {A0:Option Addr} {m0 c0 k0:Nat},SN w2 A0 m0 c0 k0→SN (((w2.setCell ⟨w.heap.size+1,0,none⟩ (.bool b2)).setCell ⟨w.heap.size+1,1,none⟩ (.slice A2 n2 c2)).setCell ⟨w.heap.size+1,2,none⟩ (.slice A3 n3 c3)) A0 m0 c0 k0:=fun hs=>(((hs.hset hh 0 (.bool b2)).hset (hh.set 0 (.bool b2) (by simp)) 1 (.slice A2 n2 c2)).hset ((hh.set 0 (.bool b2) (by simp)).set 1 (.slice A2 n2 c2) (by simp)) 2 (.slice A3 n3 c3))
      obtain ⟨r0,r1,r2⟩:=hf.c3
      generalize (((w2.setCell ⟨w.heap.size+1,0,none⟩ (.bool b2)).setCell ⟨w.heap.size+1,1,none⟩ (.slice A2 n2 c2)).setCell ⟨w.heap.size+1,2,none⟩ (.slice A3 n3 c3))=wf at *
      refine bodyPost_ret (v:=.tuple #[.agg #[.bool b2,.slice A2 n2 c2,.slice A3 n3 c3],.bool true]) (by simp [results,Tryz.results92,go_sem,r0,r1,r2];try rfl) rfl ?_
      exact ⟨⟨_,_,_,_,_,_,_,_,rfl,by rw [EO.out];exact (hr.map T)⟩,HB.out.trans (hg.below (by omega))⟩
     ·have e102:((l:Int) == 102)=false:=by rw [beq_eq_false_iff_ne];omega
      have h102:=qh hl
      clear hl
      by_cases hl:l=116
      ·have eo:opVal k s i v u f t l=(t,1):=by subst hl;rfl
       have EO:=qh eo
       subst hl
       clear eo
       go_wp2_with fail
       refine (oper_whole _ tA tl tc t m HX1.out.ht HX1.out.htl (by have:=HM.out;omega)).mono ?_
       rintro e w2 ⟨⟨b2,A2,n2,c2,A3,n3,c3,rfl,hr⟩,hb2⟩
       have hh0:=HSt.out.call hb2
       clear k00 k01 k02 k03 k04 k05 k06 k07 k10 k11 k12 f10 f11 f12
       have k0:=hh0.cell 0 (by omega)
       have f0:=hh0.frozen 0
       have k1:=hh0.cell 1 (by omega)
       have f1:=hh0.frozen 1
       have k2:=hh0.cell 2 (by omega)
       have f2:=hh0.frozen 2
       dsimp only
       go_wp2_with fail
       have hh:=(HSt.out.call hb2)
       have hf:=hh.fill3 (.bool b2) (.slice A2 n2 c2) (.slice A3 n3 c3)
       have hg:=(((hh.set 0 (.bool b2) (by simp)).set 1 (.slice A2 n2 c2) (by simp)).set 2 (.slice A3 n3 c3) (by simp))
       have T:∀ {A0:Option Addr} {m0 c0 k0:Nat},SN w2 A0 m0 c0 k0→SN (((w2.setCell ⟨w.heap.size+1,0,none⟩ (.bool b2)).setCell ⟨w.heap.size+1,1,none⟩ (.slice A2 n2 c2)).setCell ⟨w.heap.size+1,2,none⟩ (.slice A3 n3 c3)) A0 m0 c0 k0:=fun hs=>(((hs.hset hh 0 (.bool b2)).hset (hh.set 0 (.bool b2) (by simp)) 1 (.slice A2 n2 c2)).hset ((hh.set 0 (.bool b2) (by simp)).set 1 (.slice A2 n2 c2) (by simp)) 2 (.slice A3 n3 c3))
       obtain ⟨r0,r1,r2⟩:=hf.c3
       generalize (((w2.setCell ⟨w.heap.size+1,0,none⟩ (.bool b2)).setCell ⟨w.heap.size+1,1,none⟩ (.slice A2 n2 c2)).setCell ⟨w.heap.size+1,2,none⟩ (.slice A3 n3 c3))=wf at *
       refine bodyPost_ret (v:=.tuple #[.agg #[.bool b2,.slice A2 n2 c2,.slice A3 n3 c3],.bool true]) (by simp [results,Tryz.results92,go_sem,r0,r1,r2];try rfl) rfl ?_
       exact ⟨⟨_,_,_,_,_,_,_,_,rfl,by rw [EO.out];exact (hr.map T)⟩,HB.out.trans (hg.below (by omega))⟩
      ·have e116:((l:Int) == 116)=false:=by rw [beq_eq_false_iff_ne];omega
       have h116:=qh hl
       clear hl
       by_cases hl:l=101
       ·have eo:opVal k s i v u f t l=(0,1):=by subst hl;rfl
        have EO:=qh eo
        subst hl
        clear eo
        go_wp2_with fail
        refine (rat_Int _ 0 (by omega)).mono ?_
        rintro e w2 ⟨⟨b2,A2,n2,c2,A3,n3,c3,rfl,hr⟩,hb2⟩
        have hh0:=HSt.out.call hb2
        clear k00 k01 k02 k03 k04 k05 k06 k07 k10 k11 k12 f10 f11 f12
        have k0:=hh0.cell 0 (by omega)
        have f0:=hh0.frozen 0
        have k1:=hh0.cell 1 (by omega)
        have f1:=hh0.frozen 1
        have k2:=hh0.cell 2 (by omega)
        have f2:=hh0.frozen 2
        dsimp only
        go_wp2_with fail
        have hh:=(HSt.out.call hb2)
        have hf:=hh.fill3 (.bool b2) (.slice A2 n2 c2) (.slice A3 n3 c3)
        have hg:=(((hh.set 0 (.bool b2) (by simp)).set 1 (.slice A2 n2 c2) (by simp)).set 2 (.slice A3 n3 c3) (by simp))
        have T:∀ {A0:Option Addr} {m0 c0 k0:Nat},SN w2 A0 m0 c0 k0→SN (((w2.setCell ⟨w.heap.size+1,0,none⟩ (.bool b2)).setCell ⟨w.heap.size+1,1,none⟩ (.slice A2 n2 c2)).setCell ⟨w.heap.size+1,2,none⟩ (.slice A3 n3 c3)) A0 m0 c0 k0:=fun hs=>(((hs.hset hh 0 (.bool b2)).hset (hh.set 0 (.bool b2) (by simp)) 1 (.slice A2 n2 c2)).hset ((hh.set 0 (.bool b2) (by simp)).set 1 (.slice A2 n2 c2) (by simp)) 2 (.slice A3 n3 c3))
        obtain ⟨r0,r1,r2⟩:=hf.c3
        generalize (((w2.setCell ⟨w.heap.size+1,0,none⟩ (.bool b2)).setCell ⟨w.heap.size+1,1,none⟩ (.slice A2 n2 c2)).setCell ⟨w.heap.size+1,2,none⟩ (.slice A3 n3 c3))=wf at *
        refine bodyPost_ret (v:=.tuple #[.agg #[.bool b2,.slice A2 n2 c2,.slice A3 n3 c3],.bool true]) (by simp [results,Tryz.results92,go_sem,r0,r1,r2];try rfl) rfl ?_
        exact ⟨⟨_,_,_,_,_,_,_,_,rfl,by rw [EO.out];exact ((hr.mono HM.out).map T)⟩,HB.out.trans (hg.below (by omega))⟩
       ·have e101:((l:Int) == 101)=false:=by rw [beq_eq_false_iff_ne];omega
        have h101:=qh hl
        clear hl
        have eo:opVal k s i v u f t l=(0,1):=by unfold opVal;rw [if_neg h110.out,if_neg h105.out,if_neg h118.out,if_neg h119.out,if_neg h102.out,if_neg h116.out]
        have EO:=qh eo
        clear eo
        go_wp2_with fail
        refine (rat_Int _ 0 (by omega)).mono ?_
        rintro e w2 ⟨⟨b2,A2,n2,c2,A3,n3,c3,rfl,hr⟩,hb2⟩
        have hh0:=HSt.out.call hb2
        clear k00 k01 k02 k03 k04 k05 k06 k07 k10 k11 k12 f10 f11 f12
        have k0:=hh0.cell 0 (by omega)
        have f0:=hh0.frozen 0
        have k1:=hh0.cell 1 (by omega)
        have f1:=hh0.frozen 1
        have k2:=hh0.cell 2 (by omega)
        have f2:=hh0.frozen 2
        dsimp only
        go_wp2_with fail
        have hh:=(HSt.out.call hb2)
        have hf:=hh.fill3 (.bool b2) (.slice A2 n2 c2) (.slice A3 n3 c3)
        have hg:=(((hh.set 0 (.bool b2) (by simp)).set 1 (.slice A2 n2 c2) (by simp)).set 2 (.slice A3 n3 c3) (by simp))
        have T:∀ {A0:Option Addr} {m0 c0 k0:Nat},SN w2 A0 m0 c0 k0→SN (((w2.setCell ⟨w.heap.size+1,0,none⟩ (.bool b2)).setCell ⟨w.heap.size+1,1,none⟩ (.slice A2 n2 c2)).setCell ⟨w.heap.size+1,2,none⟩ (.slice A3 n3 c3)) A0 m0 c0 k0:=fun hs=>(((hs.hset hh 0 (.bool b2)).hset (hh.set 0 (.bool b2) (by simp)) 1 (.slice A2 n2 c2)).hset ((hh.set 0 (.bool b2) (by simp)).set 1 (.slice A2 n2 c2) (by simp)) 2 (.slice A3 n3 c3))
        obtain ⟨r0,r1,r2⟩:=hf.c3
        generalize (((w2.setCell ⟨w.heap.size+1,0,none⟩ (.bool b2)).setCell ⟨w.heap.size+1,1,none⟩ (.slice A2 n2 c2)).setCell ⟨w.heap.size+1,2,none⟩ (.slice A3 n3 c3))=wf at *
        refine bodyPost_ret (v:=.tuple #[.agg #[.bool b2,.slice A2 n2 c2,.slice A3 n3 c3],.bool false]) (by simp [results,Tryz.results92,go_sem,r0,r1,r2];try rfl) rfl ?_
        exact ⟨⟨_,_,_,_,_,_,_,_,rfl,by rw [EO.out];exact ((hr.mono HM.out).map T)⟩,HB.out.trans (hg.below (by omega))⟩
end Go.Proofs.YtdgleeglndcjhaaGreatDoor
