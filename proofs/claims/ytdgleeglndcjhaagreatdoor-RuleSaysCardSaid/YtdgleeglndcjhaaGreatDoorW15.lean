import Derived.Test.YtdgleeglndcjhaaGreatDoorW13
import Derived.Test.YtdgleeglndcjhaaGreatDoorW08
set_option linter.unusedSimpArgs false
set_option linter.unusedVariables false
set_option maxHeartbeats 8000000
set_option maxRecDepth 100000
namespace Go.Proofs.YtdgleeglndcjhaaGreatDoor
open Go.RowKit
theorem ints_equal (w:World) (A A':Option Addr) (n c n' c':Nat) (l l':List Int) (h:IntsAre w A n c l) (h':IntsAre w A' n' c' l') (hl:l.length≤1000000) (hl':l'.length≤1000000) :
  Calls Tryz.prog 102 #[.slice A n c,.slice A' n' c'] w fun e w'=>e=.returned (.bool (decide (l=l')))∧Below w.heap.size w w':=by
 obtain rfl:n=l.length:=h.len
 obtain rfl:n'=l'.length:=h'.len
 by_cases hn:l.length=l'.length
 ·by_cases h0:l.length=0
  ·have e1:l=[]:=List.eq_nil_of_length_eq_zero h0
   have e2:l'=[]:=List.eq_nil_of_length_eq_zero (by omega)
   subst e1;subst e2
   refine (Tryz.slices_Equal_int_empty A A' c 0 c' w (by omega)).mono ?_
   rintro e w' ⟨rfl,rfl⟩
   exact ⟨rfl,Below.refl _ _⟩
  ·obtain ⟨b,o,rfl,hc⟩:=h.at (by omega)
   obtain ⟨b',o',rfl,hc'⟩:=h'.at (by omega)
   refine (Tryz.slices_Equal_int b o l.length c b' o' l'.length c' l l' w ql ql (by omega) (by omega) (fun j hj=>hc j _ (by rw [List.getD_eq_getElem?_getD,List.getElem?_eq_getElem hj];rfl)) (fun j hj=>hc' j _ (by rw [List.getD_eq_getElem?_getD,List.getElem?_eq_getElem hj];rfl))).mono ?_
   rintro e w' ⟨rfl,q,rfl⟩
   refine ⟨?_,below_drews w q⟩
   rw [List.take_length,List.take_length]
   congr 2
   rw [Bool.eq_iff_iff,beq_iff_eq,decide_eq_true_eq]
 ·refine (Tryz.slices_Equal_int_lens A A' l.length c l'.length c' w hn).mono ?_
  rintro e w' ⟨rfl,rfl⟩
  refine ⟨?_,Below.refl _ _⟩
  rw [decide_eq_false (fun e=>hn (congrArg List.length e))]
theorem cnd_eq {a b:Cnd}:a=b↔a.letter=b.letter∧a.mod=b.mod∧a.nt=b.nt∧a.fr=b.fr∧a.to=b.to:=by
 cases a;cases b;simp
theorem rule_same (w:World) (a b:Cnd) (FA TA FB TB:Option Addr) (fn fc tn tc fm fd tm td:Nat) (hfa:IntsAre w FA fn fc a.fr) (hta:IntsAre w TA tn tc a.to) (hfb:IntsAre w FB fm fd b.fr) (htb:IntsAre w TB tm td b.to) (ha:SmallC a) (hb:SmallC b) :
  Calls Tryz.prog 62 #[.agg #[.int .u8 (a.letter:Int),.int .i64 a.mod,.bool a.nt,.slice FA fn fc,.slice TA tn tc],.agg #[.int .u8 (b.letter:Int),.int .i64 b.mod,.bool b.nt,.slice FB fm fd,.slice TB tm td]] w
   fun e w'=>e=.returned (.bool (decide (a=b)))∧Below w.heap.size w w':=by
 have hba:=((Below.refl w.heap.size w).alloc ql (.cells #[.int .u8 (a.letter:Int),.int .i64 a.mod,.bool a.nt,.slice FA fn fc,.slice TA tn tc] 47)).alloc (by simp) (.cells #[.int .u8 (b.letter:Int),.int .i64 b.mod,.bool b.nt,.slice FB fm fd,.slice TB tm td] 47)
 have HA:=qh hba
 have HFA:=qh (hfa.below hba ql)
 have HTA:=qh (hta.below hba ql)
 have HFB:=qh (hfb.below hba ql)
 have HTB:=qh (htb.below hba ql)
 have HSA:=qh ha
 have HSB:=qh hb
 obtain ⟨la,ma,na,fa,ta⟩:=a
 obtain ⟨lb,mb,nb,fb,tb⟩:=b
 simp only at *
 clear hba hfa hta hfb htb ha hb
 by_cases h1:la=lb
 ·subst h1
  by_cases h2:ma=mb
  ·subst h2
   by_cases h3:na=nb
   ·subst h3
    go_enter Tryz.func62,Tryz.ntmps62
    go_wp2_with fail
    refine (ints_equal _ FA FB fn fc fm fd fa fb HFA.out HFB.out (Nat.le_trans HSA.out.nf (by omega)) (Nat.le_trans HSB.out.nf (by omega))).mono ?_
    rintro e w3 ⟨rfl,hb3⟩
    have b0:Blk ((w.alloc (.cells #[.int .u8 (la:Int),.int .i64 ma,.bool na,.slice FA fn fc,.slice TA tn tc] 47)).alloc (.cells #[.int .u8 (la:Int),.int .i64 ma,.bool na,.slice FB fm fd,.slice TB tm td] 47)) w.heap.size 47 [.int .u8 (la:Int),.int .i64 ma,.bool na,.slice FA fn fc,.slice TA tn tc]:=(Blk.made _ 47 _ _ _ rfl rfl).alloc _
    have b1:Blk ((w.alloc (.cells #[.int .u8 (la:Int),.int .i64 ma,.bool na,.slice FA fn fc,.slice TA tn tc] 47)).alloc (.cells #[.int .u8 (la:Int),.int .i64 ma,.bool na,.slice FB fm fd,.slice TB tm td] 47)) (w.heap.size+1) 47 [.int .u8 (la:Int),.int .i64 ma,.bool na,.slice FB fm fd,.slice TB tm td]:=Blk.made _ 47 _ _ _ (by simp) rfl
    obtain ⟨-,-,-,-,k0⟩:=(b0.below hb3 b0.lt).c5
    obtain ⟨-,-,-,-,k1⟩:=(b1.below hb3 b1.lt).c5
    have HB3:=qh (HA.out.trans (hb3.mono HA.out.size))
    have T1:=qh (HTA.out.below hb3 ql)
    have T2:=qh (HTB.out.below hb3 ql)
    clear b0 b1 hb3
    by_cases hf:fa=fb
    ·rw [decide_eq_true hf]
     have HFF:=qh hf
     clear hf
     dsimp only
     go_wp2_with fail
     refine (ints_equal w3 TA TB tn tc tm td ta tb T1.out T2.out (Nat.le_trans HSA.out.nt (by omega)) (Nat.le_trans HSB.out.nt (by omega))).mono ?_
     rintro e w4 ⟨rfl,hb4⟩
     have HB4:=qh (HB3.out.trans (hb4.mono HB3.out.size))
     clear hb4 k0 k1
     dsimp only
     go_wp2_with fail
     go_ret
     exact ⟨by simp [HFF.out],HB4.out⟩
    ·rw [decide_eq_false hf]
     have HFF:=qh hf
     clear hf
     dsimp only
     go_wp2_with fail
     go_ret
     exact ⟨by simp [HFF.out],HB3.out⟩
   ·have h3I:(na == nb)=false:=by simpa using h3
    go_enter Tryz.func62,Tryz.ntmps62
    go_wp2_with fail
    go_ret
    exact ⟨by simp [h3],HA.out⟩
  ·have h2I:(ma == mb)=false:=by simpa using h2
   go_enter Tryz.func62,Tryz.ntmps62
   go_wp2_with fail
   go_ret
   exact ⟨by simp [h2],HA.out⟩
 ·have h1I:((la:Int) == (lb:Int))=false:=by rw [beq_eq_false_iff_ne];omega
  go_enter Tryz.func62,Tryz.ntmps62
  go_wp2_with fail
  go_ret
  exact ⟨by simp [h1],HA.out⟩
def SmallL (l:List Cnd):Prop:=l.length≤1000∧∀ c ∈ l,SmallC c
theorem take_eq {α:Type} {l m:List α} {k:Nat} {a b:α} (hl:l[k]?=some a) (hm:m[k]?=some b):l.take (k+1)=m.take (k+1)↔l.take k=m.take k∧a=b:=by
 rw [List.take_add_one,List.take_add_one,hl,hm]
 constructor
 ·intro h
  have h2:=List.append_inj' h rfl
  exact ⟨h2.1,by simpa using h2.2⟩
 ·rintro ⟨h1,rfl⟩;rw [h1]
def EqW {α:Type} (W:World) (l m:List α) (i:Value) (wr:World):Prop:=∃ k:Nat,k≤l.length∧i=.int .i64 k∧l.take k=m.take k∧Below W.heap.size W wr
theorem conds_equal (w:World) (A B:Option Addr) (n c m d:Nat) (l l':List Cnd) (h:CondsIs w A n c l) (h':CondsIs w B m d l') (hs:SmallL l) (hs':SmallL l') :
  Calls Tryz.prog 61 #[.slice A n c,.slice B m d,.func (Fn.func 62) #[] #[]] w fun e w'=>e=.returned (.bool (decide (l=l')))∧Below w.heap.size w w':=by
 obtain rfl:n=l.length:=h.len
 obtain rfl:m=l'.length:=h'.len
 have HA:=qh h
 have HB:=qh h'
 have HS:=qh hs
 have HS':=qh hs'
 have hl:=hs.1
 have hl':=hs'.1
 have hlI:(l.length:Int)≤1000:=by omega
 have hlI':(l'.length:Int)≤1000:=by omega
 clear h h' hs hs'
 by_cases hn:l.length=l'.length
 ·have HN:=qh hn
  have hnI:((l.length:Int) != (l'.length:Int))=false:=by rw [hn];simp
  clear hn
  go_enter Tryz.func61,Tryz.ntmps61
  go_wp2_with fail
  go_loopw [17] (fun i wr=>EqW w l l' i wr) (fun i _=>l.length - (intOf i).toNat)
  case atStart=>exact ⟨0,Nat.zero_le _,rfl,rfl,Below.refl _ _⟩
  case round =>
   obtain ⟨k,hk,rfl,ht,hb⟩:=hrel
   have HT:=qh ht
   have HBR:=qh hb
   clear ht hb
   by_cases hlt:k<l.length
   ·obtain ⟨b,o,hA,hc⟩:=(HA.out.below HBR.out ql).at (by omega)
    obtain ⟨b',o',hB,hc'⟩:=(HB.out.below HBR.out ql).at (by have:=HN.out;omega)
    subst hA
    subst hB
    obtain ⟨x,hx⟩:∃ x,l[k]?=some x:=⟨l[k],List.getElem?_eq_getElem hlt⟩
    obtain ⟨y,hy⟩:∃ y,l'[k]?=some y:=⟨l'[k]'(by have:=HN.out;omega),List.getElem?_eq_getElem _⟩
    obtain ⟨FA,fn,fc,TA,tn,tc,hF,hT,c0,c1,c2,c3,c4⟩:=hc k x hx
    obtain ⟨FB,fm,fd,TB,tm,td,hF',hT',d0,d1,d2,d3,d4⟩:=hc' k y hy
    have HX:=qh hx
    have HY:=qh hy
    have HF:=qh hF
    have HTT:=qh hT
    have HF':=qh hF'
    have HT':=qh hT'
    have HXS:=qh (HS.out.2 x (List.mem_of_getElem? hx))
    have HYS:=qh (HS'.out.2 y (List.mem_of_getElem? hy))
    have hkI:(k:Int)<(l.length:Int):=by omega
    have hkJ:(k:Int)<(l'.length:Int):=by have:=HN.out;omega
    have hk0:(0:Int)≤(k:Int):=by omega
    have hzb:b'<wr.heap.size:=World.block_lt_of_cell? wr _ d0
    have hzn:¬ b'=wr.heap.size:=by omega
    clear hc hc' hx hy hF hT hF' hT'
    go_wp2_with fail
    have hba:=((Below.refl wr.heap.size wr).alloc ql (.cells #[.int .u8 (x.letter:Int),.int .i64 x.mod,.bool x.nt,.slice FA fn fc,.slice TA tn tc] 47)).alloc (by simp) (.cells #[.int .u8 (y.letter:Int),.int .i64 y.mod,.bool y.nt,.slice FB fm fd,.slice TB tm td] 47)
    refine (rule_same _ x y FA TA FB TB fn fc tn tc fm fd tm td (HF.out.below hba ql) (HTT.out.below hba ql) (HF'.out.below hba ql) (HT'.out.below hba ql) HXS.out HYS.out).mono ?_
    rintro e w5 ⟨rfl,hb5⟩
    have HB5:=qh (HBR.out.trans ((hba.trans (hb5.mono hba.size)).mono HBR.out.size))
    clear hba hb5 c0 c1 c2 c3 c4 d0 d1 d2 d3 d4 hzb hzn
    by_cases hxy:x=y
    ·rw [decide_eq_true hxy]
     have HXY:=qh hxy
     clear hxy
     dsimp only
     go_wp2_with fail
     go_roundw
     case rel=>exact ⟨k+1,by omega,by go_num,(take_eq HX.out HY.out).2 ⟨HT.out,HXY.out⟩,HB5.out⟩
     case measure=>simp [intOf];omega
    ·rw [decide_eq_false hxy]
     have HXY:=qh hxy
     clear hxy
     dsimp only
     go_wp2_with fail
     go_ret
     refine ⟨?_,HB5.out⟩
     rw [decide_eq_false (fun e=>HXY.out (by have h1:=HX.out;have h2:=HY.out;rw [e,h2] at h1;cases h1;rfl))]
     rfl
   ·have hkI:¬ (k:Int)<(l.length:Int):=by omega
    have he:l=l':=by have:=HT.out;rw [List.take_of_length_le (by omega),List.take_of_length_le (by have:=HN.out;omega)] at this;exact this
    have HE:=qh he
    clear he
    go_wp2_with fail
    go_ret
    exact ⟨by rw [decide_eq_true HE.out];rfl,HBR.out⟩
 ·have hnI:((l.length:Int) != (l'.length:Int))=true:=by simp only [bne,Bool.not_eq_true',beq_eq_false_iff_ne];omega
  have hd:decide (l=l')=false:=decide_eq_false (fun e=>hn (congrArg List.length e))
  rw [hd]
  clear hd hn
  go_enter Tryz.func61,Tryz.ntmps61
  go_wp2_with fail
  go_ret
  exact ⟨rfl,Below.refl _ _⟩
theorem good_1 (w:World) (A B:Option Addr) (n c m d:Nat) (l l':List Cnd) (h:CondsIs w A n c l) (h':CondsIs w B m d l') (hs:SmallL l) (hs':SmallL l') :
  Calls Tryz.prog 60 #[.slice A n c,.slice B m d] w fun e w'=>e=.returned (.bool (decide (l=l')))∧Below w.heap.size w w':=by
 have HC:=qh (conds_equal w A B n c m d l l' h h' hs hs')
 clear h h' hs hs'
 go_enter Tryz.func60,Tryz.ntmps60
 go_wp2_with fail
 refine HC.out.mono ?_
 rintro e w1 ⟨rfl,hb⟩
 have HB:=qh hb
 clear hb HC
 dsimp only
 go_wp2_with fail
 go_ret
 exact ⟨rfl,HB.out⟩
theorem rows_equal (w:World) (A B:Option Addr) (n c m d:Nat) (l l':Rl) (h:RuleIs w A n c l) (h':RuleIs w B m d l') (hs:SmallR l) (hs':SmallR l') :
  Calls Tryz.prog 59 #[.slice A n c,.slice B m d,.func (Fn.func 60) #[] #[]] w fun e w'=>e=.returned (.bool (decide (l=l')))∧Below w.heap.size w w':=by
 obtain rfl:n=l.length:=h.len
 obtain rfl:m=l'.length:=h'.len
 have HA:=qh h
 have HB:=qh h'
 have HS:=qh hs
 have HS':=qh hs'
 have hl:=hs.len
 have hl':=hs'.len
 have hlI:(l.length:Int)≤1000:=by omega
 have hlI':(l'.length:Int)≤1000:=by omega
 clear h h' hs hs'
 by_cases hn:l.length=l'.length
 ·have HN:=qh hn
  have hnI:((l.length:Int) != (l'.length:Int))=false:=by rw [hn];simp
  clear hn
  go_enter Tryz.func59,Tryz.ntmps59
  go_wp2_with fail
  go_loopw [17] (fun i wr=>EqW w l l' i wr) (fun i _=>l.length - (intOf i).toNat)
  case atStart=>exact ⟨0,Nat.zero_le _,rfl,rfl,Below.refl _ _⟩
  case round =>
   obtain ⟨k,hk,rfl,ht,hb⟩:=hrel
   have HT:=qh ht
   have HBR:=qh hb
   clear ht hb
   by_cases hlt:k<l.length
   ·obtain ⟨b,o,hA,hc⟩:=(HA.out.below HBR.out ql).at (by omega)
    obtain ⟨b',o',hB,hc'⟩:=(HB.out.below HBR.out ql).at (by have:=HN.out;omega)
    subst hA
    subst hB
    obtain ⟨x,hx⟩:∃ x,l[k]?=some x:=⟨l[k],List.getElem?_eq_getElem hlt⟩
    obtain ⟨y,hy⟩:∃ y,l'[k]?=some y:=⟨l'[k]'(by have:=HN.out;omega),List.getElem?_eq_getElem _⟩
    obtain ⟨xA,xn,xc,c0,hX⟩:=hc k x hx
    obtain ⟨yA,yn,yc,d0,hY⟩:=hc' k y hy
    have HX:=qh hx
    have HY:=qh hy
    have CX:=qh hX
    have CY:=qh hY
    have HXS:=qh (HS.out.rows x (List.mem_of_getElem? hx))
    have HYS:=qh (HS'.out.rows y (List.mem_of_getElem? hy))
    have hkI:(k:Int)<(l.length:Int):=by omega
    have hkJ:(k:Int)<(l'.length:Int):=by have:=HN.out;omega
    have hk0:(0:Int)≤(k:Int):=by omega
    clear hc hc' hx hy hX hY
    go_wp2_with fail
    refine (good_1 wr xA yA xn xc yn yc x y CX.out CY.out HXS.out HYS.out).mono ?_
    rintro e w5 ⟨rfl,hb5⟩
    have HB5:=qh (HBR.out.trans (hb5.mono HBR.out.size))
    clear hb5 c0 d0
    by_cases hxy:x=y
    ·rw [decide_eq_true hxy]
     have HXY:=qh hxy
     clear hxy
     dsimp only
     go_wp2_with fail
     go_roundw
     case rel=>exact ⟨k+1,by omega,by go_num,(take_eq HX.out HY.out).2 ⟨HT.out,HXY.out⟩,HB5.out⟩
     case measure=>simp [intOf];omega
    ·rw [decide_eq_false hxy]
     have HXY:=qh hxy
     clear hxy
     dsimp only
     go_wp2_with fail
     go_ret
     refine ⟨?_,HB5.out⟩
     rw [decide_eq_false (fun e=>HXY.out (by have h1:=HX.out;have h2:=HY.out;rw [e,h2] at h1;cases h1;rfl))]
     rfl
   ·have hkI:¬ (k:Int)<(l.length:Int):=by omega
    have he:l=l':=by have:=HT.out;rw [List.take_of_length_le (by omega),List.take_of_length_le (by have:=HN.out;omega)] at this;exact this
    have HE:=qh he
    clear he
    go_wp2_with fail
    go_ret
    exact ⟨by rw [decide_eq_true HE.out];rfl,HBR.out⟩
 ·have hnI:((l.length:Int) != (l'.length:Int))=true:=by simp only [bne,Bool.not_eq_true',beq_eq_false_iff_ne];omega
  have hd:decide (l=l')=false:=decide_eq_false (fun e=>hn (congrArg List.length e))
  rw [hd]
  clear hd hn
  go_enter Tryz.func59,Tryz.ntmps59
  go_wp2_with fail
  go_ret
  exact ⟨rfl,Below.refl _ _⟩
theorem len_le_join (sep:Bs):∀ ws:List Bs,∀ w ∈ ws,w.length≤(Lib.join ws sep).length
 | [],w,h=>by cases h
 | x :: r,w,h=>by
  rw [Lib.join_length]
  have aux:∀ l:List Bs,∀ w ∈ l,w.length≤Lib.lens l:=by
   intro l
   induction l with
   | nil=>intro w h;cases h
   | cons a l ih =>
    intro w h
    simp only [Lib.lens,List.map_cons,List.sum_cons] at ih ⊢
    rcases List.mem_cons.1 h with rfl|h
    ·omega
    ·have:=ih w h;omega
  have:=aux _ w h;omega
theorem many_le_join (b:UInt8) (sep:Bs):∀ ws:List Bs,ws.length≤(Lib.join ws (b :: sep)).length+1
 | []=>by simp
 | x :: r=>by
  rw [Lib.join_length]
  have:r.length≤(b :: sep).length * r.length:=Nat.le_mul_of_pos_left _ (by simp)
  simp only [List.length_cons] at *
  omega
theorem smallC_of {c:Cnd} (h:Valid c) (hl:(writeC c).length≤256):SmallC c:=by
 obtain ⟨⟨l,hl1,h1⟩,⟨m,h2,hm⟩,⟨L,h0,h3,h4,h5⟩⟩:=h
 have hj:(Lib.join (items c.fr c.to) [44]).length≤256:=by
  unfold writeC at hl
  simp only [List.length_append] at hl
  omega
 have hm2:=many_le_join 44 [] (items c.fr c.to)
 rw [items_len] at hm2
 have e1:c.fr.length=L.length:=by rw [h3];simp
 have e2:c.to.length=L.length:=by rw [h4];simp
 refine ⟨by rw [h1];exact l.toNat_lt,by rw [h2];constructor <;> omega,fun x hx=>?_,fun x hx=>?_,by omega,by omega⟩
 ·rw [h3] at hx
  obtain ⟨e,he,rfl⟩:=List.mem_map.1 hx
  have:=h5 e he
  constructor <;> omega
 ·rw [h4] at hx
  obtain ⟨e,he,rfl⟩:=List.mem_map.1 hx
  have:=h5 e he
  constructor <;> omega
theorem smallR_of {r:Rl} (h:ValidR r) (hl:(writeR r).length≤256):SmallR r:=by
 have h1:=many_le_join 32 [111,114,32] (r.map writeL)
 have e1:(Lib.join (r.map writeL) [32,111,114,32]).length≤256:=hl
 refine ⟨by simp at h1;omega,fun l hll=>?_⟩
 have h2:=len_le_join [32,111,114,32] (r.map writeL) (writeL l) (List.mem_map_of_mem hll)
 have h3:=many_le_join 32 [97,110,100,32] (l.map writeC)
 have e2:(Lib.join (l.map writeC) [32,97,110,100,32]).length≤256:=by show (writeL l).length≤256;omega
 refine ⟨by simp at h3;omega,fun c hc=>smallC_of ((h.rows l hll).2 c hc) ?_⟩
 have h4:=len_le_join [32,97,110,100,32] (l.map writeC) (writeC c) (List.mem_map_of_mem hc)
 omega
theorem smallR_good {r:Rl} (h:goodR r=true):SmallR r:=by
 have e:parseR (writeR r)=(0,r):=of_decide_eq_true h
 exact smallR_of (goodR_valid h) (parseR_ok e).1
theorem smallR_nil:SmallR []:=⟨by simp,fun l h=>by cases h⟩
theorem parseR_cases (s:Bs):(∃ r,parseR s=(0,r)∧SmallR r)∨∃ e,parseR s=(e,[])∧(e=2∨e=11):=by
 unfold parseR
 split
 ·exact .inr ⟨11,rfl,.inr rfl⟩
 ·rename_i hl
  split
  ·exact .inr ⟨2,rfl,.inl rfl⟩
  ·rename_i r hr
   have:=rule?_some hr
   exact .inl ⟨r,rfl,smallR_of this.1 (by omega)⟩
theorem rule_Good (w:World) (A:Option Addr) (n c:Nat) (r:Rl) (hG:GW w) (h:RuleIs w A n c r) (hs:SmallR r) :
  Calls Tryz.prog 17 #[.agg #[.slice A n c]] w fun e w'=>e=.returned (.bool (goodR r))∧Below w.heap.size w w':=by
 have HG:=qh hG
 have HX:=qh h
 have HS:=qh hs
 clear hG h hs
 go_enter Tryz.func17,Tryz.ntmps17
 go_upto_region 1 with fail
 refine wp_letter (fun w1=>Blk w1 w.heap.size 30 [.slice A n c]∧Below w.heap.size w w1) ⟨Blk.made _ 30 _ _ _ rfl rfl,(Below.refl _ _).alloc ql _⟩ ?_
 rintro w1 ⟨b0,hb⟩
 have B0:=qh b0
 have HB:=qh hb
 have k0:=b0.c1
 clear b0 hb
 go_wp2_with fail
 refine (rule_write w1 A n c r (HG.out.below HB.out ql) (HX.out.below HB.out ql) HS.out).mono ?_
 rintro e w2 ⟨rfl,hb2⟩
 have HB2:=qh (HB.out.trans (hb2.mono HB.out.size))
 have B2:=qh (B0.out.below hb2 B0.out.lt)
 clear hb2 k0 B0 HB
 dsimp only
 go_wp2_with fail
 refine (rule_Parse w2 ⟨(writeR r).toArray⟩ (HG.out.below HB2.out ql)).mono ?_
 rintro e w3 ⟨A3,n3,c3,rfl,hr3,hb3⟩
 have hpe:(⟨(writeR r).toArray⟩:ByteArray).data.toList=writeR r:=rfl
 rw [hpe] at hr3 ⊢
 have HB3:=qh (HB2.out.trans (hb3.mono HB2.out.size))
 have B3:=qh (B2.out.below hb3 B2.out.lt)
 have HR3:=qh hr3
 clear hb3 hr3 B2 HB2 hpe
 rcases parseR_cases (writeR r) with ⟨r',hp,hs'⟩|⟨e0,hp,he0⟩
 ·have HP:=qh hp
  have HS':=qh hs'
  rw [hp]
  have HR4:Hid (RuleAre w3 A3 n3 c3 r'):=by have:=HR3.out;rw [hp] at this;exact this.are
  have hgr:goodR r=decide (r=r'):=by
   unfold goodR
   rw [hp]
   rw [decide_eq_decide]
   constructor
   ·intro h;exact (Prod.mk.inj h).2.symm
   ·intro h;rw [h]
  have HGR:=qh hgr
  have k3:=B3.out.c1
  have hz3:=B3.out.lt
  clear hp hs' hgr HR3
  dsimp only
  go_wp2_with fail
  have hba:=(Below.refl w3.heap.size w3).alloc ql (.cells #[.slice A3 n3 c3] 30)
  refine (rows_equal _ A A3 n c n3 c3 r r' ((HX.out.below HB3.out ql).below hba ql) (HR4.out.is.below hba ql) HS.out HS'.out).mono ?_
  rintro e w5 ⟨rfl,hb5⟩
  have HB5:=qh (HB3.out.trans ((hba.trans (hb5.mono hba.size)).mono HB3.out.size))
  clear hba hb5 k3
  dsimp only
  go_wp2_with fail
  go_ret
  exact ⟨by rw [HGR.out];rfl,HB5.out⟩
 ·have hgr:goodR r=false:=by
   unfold goodR
   rw [hp]
   refine decide_eq_false fun h=>?_
   have:=(Prod.mk.inj h).1
   omega
  rw [hp]
  have HGR:=qh hgr
  have heI:((e0:Int) == 0)=false:=by rw [beq_eq_false_iff_ne];omega
  have k3:=B3.out.c1
  have hz3:=B3.out.lt
  clear hp hgr HR3
  dsimp only
  go_wp2_with fail
  go_ret
  exact ⟨by rw [HGR.out];rfl,HB3.out.alloc HB3.out.size _⟩
theorem rule_Show (w:World) (A:Option Addr) (n c:Nat) (r:Rl) (hG:GW w) (h:RuleIs w A n c r) (hs:SmallR r) :
  Calls Tryz.prog 19 #[.agg #[.slice A n c]] w fun e w'=>e=.returned (.string ⟨(if goodR r then writeR r else []).toArray⟩)∧Below w.heap.size w w':=by
 have HG:=qh hG
 have HX:=qh h
 have HS:=qh hs
 clear hG h hs
 go_enter Tryz.func19,Tryz.ntmps19
 go_upto_region 1 with fail
 refine wp_letter (fun w1=>Blk w1 w.heap.size 30 [.slice A n c]∧Below w.heap.size w w1) ⟨Blk.made _ 30 _ _ _ rfl rfl,(Below.refl _ _).alloc ql _⟩ ?_
 rintro w1 ⟨b0,hb⟩
 have B0:=qh b0
 have HB:=qh hb
 have k0:=b0.c1
 clear b0 hb
 go_wp2_with fail
 refine (rule_Good w1 A n c r (HG.out.below HB.out ql) (HX.out.below HB.out ql) HS.out).mono ?_
 rintro e w2 ⟨rfl,hb2⟩
 have HB2:=qh (HB.out.trans (hb2.mono HB.out.size))
 have B2:=qh (B0.out.below hb2 B0.out.lt)
 have k2:=B2.out.c1
 clear hb2 k0 B0 HB
 cases hg:goodR r
 ·dsimp only
  go_wp2_with fail
  all_goals
   go_ret
   exact ⟨rfl,HB2.out⟩
 ·dsimp only
  go_wp2_with fail
  refine (rule_write w2 A n c r (HG.out.below HB2.out ql) (HX.out.below HB2.out ql) HS.out).mono ?_
  rintro e w3 ⟨rfl,hb3⟩
  have HB3:=qh (HB2.out.trans (hb3.mono HB2.out.size))
  clear hb3 k2
  dsimp only
  go_wp2_with fail
  go_ret
  exact ⟨rfl,HB3.out⟩
structure HoldL (W:World) (L:List (Nat × TypeId × Nat)) (w:World):Prop where
 os:w.os=W.os
 tape:w.tape=W.tape
 output:w.output=W.output
 size:W.heap.size≤w.heap.size
 block:∀ k,k<W.heap.size→(∀ e ∈ L,k≠e.1)→w.heap[k]?=W.heap[k]?
 is:∀ e ∈ L,∃ l:List Value,l.length=e.2.2∧Blk w e.1 e.2.1 l∧No32 l
 was:∀ e ∈ L,∃ l:List Value,Blk W e.1 e.2.1 l∧No32 l
theorem HoldL.start {W:World} {L:List (Nat × TypeId × Nat)} (h:∀ e ∈ L,∃ l:List Value,l.length=e.2.2∧Blk W e.1 e.2.1 l∧No32 l):HoldL W L W :=
 ⟨rfl,rfl,rfl,ql,fun _ _ _=>rfl,h,fun e he=>let ⟨l,_,h2,h3⟩:=h e he;⟨l,h2,h3⟩⟩
theorem HoldL.drew {W w:World} {L:List (Nat × TypeId × Nat)} (h:HoldL W L w):HoldL W L w.drew :=
 ⟨h.os,h.tape,h.output,h.size,h.block,h.is,h.was⟩
theorem HoldL.call {W w w':World} {L:List (Nat × TypeId × Nat)} (h:HoldL W L w) (hb:Below w.heap.size w w'):HoldL W L w' :=
 ⟨hb.os.trans h.os,hb.tape.trans h.tape,hb.output.trans h.output,Nat.le_trans h.size hb.size,fun k hk hne=>(hb.block k (Nat.lt_of_lt_of_le hk h.size)).trans (h.block k hk hne),
  fun e he=>let ⟨l,h3,h4,h5⟩:=h.is e he;⟨l,h3,h4.below hb h4.lt,h5⟩,h.was⟩
theorem HoldL.set {W w:World} {L:List (Nat × TypeId × Nat)} (h:HoldL W L w) (g i:Nat) (u:Value) (hg:∃ t n,(g,t,n) ∈ L) (hu:∀ n,u≠.int .u32 n):HoldL W L (w.setCell ⟨g,i,none⟩ u):=by
 obtain ⟨t,n,hg⟩:=hg
 refine ⟨h.os,h.tape,h.output,by simpa [World.setCell] using h.size,fun k hk hne=>?_,fun e he=>?_,h.was⟩
 ·rw [Below.heap_setCell _ _ _ _ (hne _ hg)];exact h.block k hk hne
 ·obtain ⟨l,h3,h4,h5⟩:=h.is e he
  by_cases heg:e.1=g
  ·subst heg
   refine ⟨_,by simpa using h3,h4.put i u,fun x hx=>?_⟩
   rcases List.mem_or_eq_of_mem_set hx with h|h
   ·exact h5 x h
   ·subst h;exact hu
  ·exact ⟨l,h3,h4.far _ _ heg,h5⟩
theorem HoldL.cell {W w:World} {L:List (Nat × TypeId × Nat)} (h:HoldL W L w) (g:Nat) (t:TypeId) (n i:Nat) (hg:(g,t,n) ∈ L) (hi:i<n):w.cell? ⟨g,i,none⟩=some (cellAt w ⟨g,i,none⟩):=by
 obtain ⟨l,h3,h4,h5⟩:=h.is _ hg
 unfold cellAt
 rw [h4.cell,List.getElem?_eq_getElem (by simp only at h3;omega)];rfl
theorem HoldL.frozen {W w:World} {L:List (Nat × TypeId × Nat)} (h:HoldL W L w) (g:Nat) (t:TypeId) (n i:Nat) (hg:(g,t,n) ∈ L):w.frozen? ⟨g,i,none⟩=false:=by
 obtain ⟨l,h3,h4,h5⟩:=h.is _ hg
 exact h4.frozen i
theorem HoldL.blk {W w:World} {L:List (Nat × TypeId × Nat)} {b:Nat} {s:TypeId} {l:List Value} (h:HoldL W L w) (hB:Blk W b s l) (hne:∀ e ∈ L,b≠e.1):Blk w b s l:=by
 have:=hB.lt
 unfold Blk at *
 rw [h.block b this hne];exact hB
theorem HoldL.get {W w:World} {L:List (Nat × TypeId × Nat)} (h:HoldL W L w) (g:Nat) (t:TypeId) (n:Nat) (hg:(g,t,n) ∈ L):∃ l:List Value,l.length=n∧Blk w g t l:=by
 obtain ⟨l,h3,h4,-⟩:=h.is _ hg
 exact ⟨l,h3,h4⟩
theorem HoldL.below {W w:World} {L:List (Nat × TypeId × Nat)} {B:Nat} (h:HoldL W L w) (hB:∀ e ∈ L,B≤e.1) (hW:B≤W.heap.size):Below B W w :=
 ⟨h.os,h.tape,h.output,h.size,fun k hk=>h.block k (Nat.lt_of_lt_of_le hk hW) fun e he=>by have:=hB e he;omega⟩
theorem SN.apartL {w w':World} {A:Option Addr} {m c k:Nat} {L:List (Nat × TypeId × Nat)} (hs:SN w A m c k) (hL:∀ e ∈ L,∃ l:List Value,Blk w e.1 e.2.1 l∧No32 l) (hk:∀ b,b<w.heap.size→(∀ e ∈ L,b≠e.1)→w'.heap[b]?=w.heap[b]?):SN w' A m c k:=by
 obtain ⟨⟨A',c',h1,h2,h3,h4⟩,hd⟩:=hs
 refine ⟨⟨A',c',h1,h2,h3,fun hp=>?_⟩,hd⟩
 obtain ⟨b,o,h5,h6⟩:=h4 hp
 have hne:∀ e ∈ L,b≠e.1:=by
  rintro e he rfl
  obtain ⟨l,hB,hl⟩:=hL e he
  have hl':0<(wordsOf k).length:=by simpa [U32] using hp
  have h0:=h6 0 _ (U32_get _ 0 hl')
  rw [hB.cell] at h0
  exact hl _ (List.mem_of_getElem? h0) _ rfl
 refine ⟨b,o,h5,fun j x hx=>?_⟩
 have:=h6 j x hx
 rw [← this]
 unfold World.cell?
 rw [hk b (World.block_lt_of_cell? w _ this) hne]
theorem HoldL.sn {W w:World} {L:List (Nat × TypeId × Nat)} (h:HoldL W L w) {A:Option Addr} {m c k:Nat} (hs:SN W A m c k):SN w A m c k:=hs.apartL h.was h.block
theorem SN.hsetL {W w:World} {L:List (Nat × TypeId × Nat)} {A:Option Addr} {m c k:Nat} (hs:SN w A m c k) (h:HoldL W L w) (g i:Nat) (u:Value) (hg:∃ t n,(g,t,n) ∈ L):SN (w.setCell ⟨g,i,none⟩ u) A m c k:=by
 obtain ⟨t,n,hg⟩:=hg
 obtain ⟨l,-,hB,hl⟩:=h.is _ hg
 exact hs.apart hB hl fun b hb hne=>Below.heap_setCell _ _ _ _ hne
def RetZZ (e:Ending) (w':World) (q r:Int):Prop:=∃ b A n c b' A' n' c',e=.returned (.tuple #[.agg #[.bool b,.slice A n c],.agg #[.bool b',.slice A' n' c'],.bool true])∧RZ w' b A n c q∧RZ w' b' A' n' c' r
theorem num_Div (w:World) (A A':Option Addr) (n c n' c':Nat) (x y:Nat) (hx:SN w A n c x) (hy:SN w A' n' c' y) (hbx:Big x) (hby:Big y) (hy0:0<y) :
  Calls Tryz.prog 147 #[.agg #[.bool false,.slice A n c],.agg #[.bool false,.slice A' n' c']] w fun e w'=>RetZZ e w' ((x / y:Nat):Int) ((x % y:Nat):Int)∧Below w.heap.size w w':=by
 have HX:=qh hx
 have HY:=qh hy
 have HBX:=qh hbx
 have HBY:=qh hby
 have HY0:=qh hy0
 have HBQ:Hid (Big (x / y)):=hbx.mono (Nat.div_le_self _ _)
 have HBR:Hid (Big (x % y)):=hbx.mono (Nat.mod_le _ _)
 clear hx hy hbx hby hy0
 go_enter Tryz.func147,Tryz.ntmps147
 go_upto_region 1 with fail
 refine wp_letter (fun w1=>Blk w1 w.heap.size 35 [.bool false,.slice A n c]∧Blk w1 (w.heap.size+1) 35 [.bool false,.slice A' n' c']∧Blk w1 (w.heap.size+1+1) 35 [.bool false,.slice none 0 0]∧Blk w1 (w.heap.size+1+1+1) 35 [.bool false,.slice none 0 0]∧Below w.heap.size w w1) ⟨((((Blk.made _ 35 _ _ _ (by simp) rfl).alloc _).alloc _).alloc _),(((Blk.made _ 35 _ _ _ (by simp) rfl).alloc _).alloc _),((Blk.made _ 35 _ _ _ (by simp) rfl).alloc _),(Blk.made _ 35 _ _ _ (by simp) rfl),(((((Below.refl _ _).alloc (by simp;try omega) _).alloc (by simp;try omega) _).alloc (by simp;try omega) _).alloc (by simp;try omega) _)⟩ ?_
 rintro w1 ⟨b0,b1,b2,b3,hb⟩
 obtain ⟨k00,k01⟩:=b0.c2
 obtain ⟨k10,k11⟩:=b1.c2
 obtain ⟨k20,k21⟩:=b2.c2
 obtain ⟨k30,k31⟩:=b3.c2
 have HB:=qh hb
 have H0:=qh b0
 have H1:=qh b1
 have H2:=qh b2
 have H3:=qh b3
 have hz:=b3.lt
 clear hb b0 b1 b2 b3
 go_wp2_with fail
 refine (natDiv _ A A' n c n' c' x y (HX.out.below HB.out ql) (HY.out.below HB.out ql) HBX.out HBY.out HY0.out).mono ?_
 rintro e w2 ⟨⟨A2,n2,c2,A3,n3,c3,rfl,hr2,hr3⟩,hb2⟩
 have hz2:=hb2.size
 have m1:=(((H0.out.below hb2 (by omega)).alloc (.cells #[.slice A2 n2 c2] 24)).alloc (.cells #[.slice A3 n3 c3] 24)).c1
 clear k00 k01 k10 k11 k20 k21 k30 k31
 dsimp only
 go_wp2_with fail
 refine wp_letter (fun w3=>Blk w3 w.heap.size 35 [.bool false,.slice A n c]∧Blk w3 (w.heap.size+1) 35 [.bool false,.slice A' n' c']∧Blk w3 (w.heap.size+1+1) 35 [.bool false,.slice none 0 0]∧Blk w3 (w.heap.size+1+1+1) 35 [.bool false,.slice none 0 0] ∧
   Blk w3 w2.heap.size 24 [.slice A2 n2 c2]∧Blk w3 (w2.heap.size+1) 24 [.slice A3 n3 c3]∧SN w3 A2 n2 c2 (x / y)∧SN w3 A3 n3 c3 (x % y)∧Below w.heap.size w w3)
  ⟨((H0.out.below hb2 (by omega)).alloc _).alloc _,((H1.out.below hb2 (by omega)).alloc _).alloc _,((H2.out.below hb2 (by omega)).alloc _).alloc _,((H3.out.below hb2 (by omega)).alloc _).alloc _,(Blk.made _ 24 _ _ _ rfl rfl).alloc _,Blk.made _ 24 _ _ _ (by simp) rfl,
   hr2.below (((Below.refl _ _).alloc ql _).alloc (by simp) _) ql,hr3.below (((Below.refl _ _).alloc ql _).alloc (by simp) _) ql,((HB.out.trans (hb2.mono HB.out.size)).alloc (by omega) _).alloc (by simp;omega) _⟩ ?_
 rintro w3 ⟨g0,g1,g2,g3,g7,g8,r2,r3,hbb⟩
 have G0:=qh g0
 have G1:=qh g1
 have G2:=qh g2
 have G3:=qh g3
 have G7:=qh g7
 have G8:=qh g8
 have R2:=qh r2
 have R3:=qh r3
 have HBB:=qh hbb
 have z8:=g8.lt
 clear m1 g0 g1 g2 g3 g7 g8 r2 r3 hbb hr2 hr3 H0 H1 H2 H3 HX HY HB HY0 hb2
 have HF:Hid (∀ w',HoldL w3 [(w.heap.size+1+1,35,2),(w.heap.size+1+1+1,35,2)] w'→w'.cell? ⟨w.heap.size,0,none⟩=some (.bool false)∧w'.cell? ⟨w.heap.size+1,0,none⟩=some (.bool false)∧w'.cell? ⟨w2.heap.size,0,none⟩=some (.slice A2 n2 c2)∧w'.cell? ⟨w2.heap.size+1,0,none⟩=some (.slice A3 n3 c3)∧w'.cell? ⟨w.heap.size+1+1,0,none⟩=some (cellAt w' ⟨w.heap.size+1+1,0,none⟩)∧w'.cell? ⟨w.heap.size+1+1,1,none⟩=some (cellAt w' ⟨w.heap.size+1+1,1,none⟩)∧w'.frozen? ⟨w.heap.size+1+1,0,none⟩=false∧w'.frozen? ⟨w.heap.size+1+1,1,none⟩=false∧w'.cell? ⟨w.heap.size+1+1+1,0,none⟩=some (cellAt w' ⟨w.heap.size+1+1+1,0,none⟩)∧w'.cell? ⟨w.heap.size+1+1+1,1,none⟩=some (cellAt w' ⟨w.heap.size+1+1+1,1,none⟩)∧w'.frozen? ⟨w.heap.size+1+1+1,0,none⟩=false∧w'.frozen? ⟨w.heap.size+1+1+1,1,none⟩=false∧HoldL w3 [(w.heap.size+1+1,35,2),(w.heap.size+1+1+1,35,2)] w'):=fun w' h=>⟨(h.blk G0.out (by simp <;> omega)).cell 0,(h.blk G1.out (by simp <;> omega)).cell 0,(h.blk G7.out (by simp <;> omega)).cell 0,(h.blk G8.out (by simp <;> omega)).cell 0,h.cell _ 35 2 0 (by simp) (by omega),h.cell _ 35 2 1 (by simp) (by omega),h.frozen _ 35 2 0 (by simp),h.frozen _ 35 2 1 (by simp),h.cell _ 35 2 0 (by simp) (by omega),h.cell _ 35 2 1 (by simp) (by omega),h.frozen _ 35 2 0 (by simp),h.frozen _ 35 2 1 (by simp),h⟩
 have HSt:Hid (HoldL w3 [(w.heap.size+1+1,35,2),(w.heap.size+1+1+1,35,2)] w3):=HoldL.start (by simp;exact ⟨⟨_,by simp,G2.out,by simp [No32]⟩,⟨_,by simp,G3.out,by simp [No32]⟩⟩)
 go_region_held3 (fun w'=>w'.cell? ⟨w.heap.size,0,none⟩=some (.bool false)∧w'.cell? ⟨w.heap.size+1,0,none⟩=some (.bool false)∧w'.cell? ⟨w2.heap.size,0,none⟩=some (.slice A2 n2 c2)∧w'.cell? ⟨w2.heap.size+1,0,none⟩=some (.slice A3 n3 c3)∧w'.cell? ⟨w.heap.size+1+1,0,none⟩=some (cellAt w' ⟨w.heap.size+1+1,0,none⟩)∧w'.cell? ⟨w.heap.size+1+1,1,none⟩=some (cellAt w' ⟨w.heap.size+1+1,1,none⟩)∧w'.frozen? ⟨w.heap.size+1+1,0,none⟩=false∧w'.frozen? ⟨w.heap.size+1+1,1,none⟩=false∧w'.cell? ⟨w.heap.size+1+1+1,0,none⟩=some (cellAt w' ⟨w.heap.size+1+1+1,0,none⟩)∧w'.cell? ⟨w.heap.size+1+1+1,1,none⟩=some (cellAt w' ⟨w.heap.size+1+1+1,1,none⟩)∧w'.frozen? ⟨w.heap.size+1+1+1,0,none⟩=false∧w'.frozen? ⟨w.heap.size+1+1+1,1,none⟩=false∧HoldL w3 [(w.heap.size+1+1,35,2),(w.heap.size+1+1+1,35,2)] w')
  (first|exact HF.out _ HSt.out.drew|(go_split_ands;first|exact HF.out _ (HoldL.call ‹HoldL w3 [(w.heap.size+1+1,35,2),(w.heap.size+1+1+1,35,2)] _› hb4)|exact HF.out _ (HoldL.call ‹HoldL w3 [(w.heap.size+1+1,35,2),(w.heap.size+1+1+1,35,2)] _› hb5)|exact HF.out _ ((HoldL.set ‹HoldL w3 [(w.heap.size+1+1,35,2),(w.heap.size+1+1+1,35,2)] _› (w.heap.size+1+1) 0 _ ⟨35,2,by simp⟩ (by simp)).set (w.heap.size+1+1) 1 _ ⟨35,2,by simp⟩ (by simp))|exact HF.out _ ((HoldL.set ‹HoldL w3 [(w.heap.size+1+1,35,2),(w.heap.size+1+1+1,35,2)] _› (w.heap.size+1+1+1) 0 _ ⟨35,2,by simp⟩ (by simp)).set (w.heap.size+1+1+1) 1 _ ⟨35,2,by simp⟩ (by simp))))
  (first|((with_reducible refine (num_made _ _ A2 n2 c2 (x / y) ?_ HBQ.out).mono ?_);(refine HoldL.sn (W:=w3) (L:=[(w.heap.size+1+1,35,2),(w.heap.size+1+1+1,35,2)]) ?_ R2.out;(go_split_ands;assumption));rintro e w4 ⟨⟨b4,A4,n4,c4,rfl,hr4⟩,hb4⟩)|((with_reducible refine (num_made _ _ A3 n3 c3 (x % y) ?_ HBR.out).mono ?_);(refine HoldL.sn (W:=w3) (L:=[(w.heap.size+1+1,35,2),(w.heap.size+1+1+1,35,2)]) ?_ R3.out;(go_split_ands;assumption));rintro e w5 ⟨⟨b5,A5,n5,c5,rfl,hr5⟩,hb5⟩))
 have hh:=(HSt.out.drew.call hb4).call hb5
 obtain ⟨l2,q2,B2⟩:=hh.get (w.heap.size+1+1) 35 2 (by simp)
 obtain ⟨l3,q3,B3⟩:=hh.get (w.heap.size+1+1+1) 35 2 (by simp)
 obtain ⟨y1,y2,rfl⟩:∃ x y,l2=[x,y]:=by
  match l2,q2 with
  | [x,y],_=>exact ⟨x,y,rfl⟩
 obtain ⟨y3,y4,rfl⟩:∃ x y,l3=[x,y]:=by
  match l3,q3 with
  | [x,y],_=>exact ⟨x,y,rfl⟩
 have e2:=(((B2.put 0 (.bool b4)).put 1 (.slice A4 n4 c4)).far ⟨w.heap.size+1+1+1,0,none⟩ (.bool b5) (by simp)).far ⟨w.heap.size+1+1+1,1,none⟩ (.slice A5 n5 c5) (by simp)
 have e3:=((((B3.far ⟨w.heap.size+1+1,0,none⟩ (.bool b4) (by simp)).far ⟨w.heap.size+1+1,1,none⟩ (.slice A4 n4 c4) (by simp)).put 0 (.bool b5)).put 1 (.slice A5 n5 c5))
 have hg:=((((hh.set (w.heap.size+1+1) 0 (.bool b4) ⟨35,2,by simp⟩ (by simp)).set (w.heap.size+1+1) 1 (.slice A4 n4 c4) ⟨35,2,by simp⟩ (by simp)).set (w.heap.size+1+1+1) 0 (.bool b5) ⟨35,2,by simp⟩ (by simp)).set (w.heap.size+1+1+1) 1 (.slice A5 n5 c5) ⟨35,2,by simp⟩ (by simp))
 have s4:=(((((hr4.sn.below hb5 ql).hsetL hh (w.heap.size+1+1) 0 (.bool b4) ⟨35,2,by simp⟩).hsetL (hh.set (w.heap.size+1+1) 0 (.bool b4) ⟨35,2,by simp⟩ (by simp)) (w.heap.size+1+1) 1 (.slice A4 n4 c4) ⟨35,2,by simp⟩).hsetL ((hh.set (w.heap.size+1+1) 0 (.bool b4) ⟨35,2,by simp⟩ (by simp)).set (w.heap.size+1+1) 1 (.slice A4 n4 c4) ⟨35,2,by simp⟩ (by simp)) (w.heap.size+1+1+1) 0 (.bool b5) ⟨35,2,by simp⟩).hsetL (((hh.set (w.heap.size+1+1) 0 (.bool b4) ⟨35,2,by simp⟩ (by simp)).set (w.heap.size+1+1) 1 (.slice A4 n4 c4) ⟨35,2,by simp⟩ (by simp)).set (w.heap.size+1+1+1) 0 (.bool b5) ⟨35,2,by simp⟩ (by simp)) (w.heap.size+1+1+1) 1 (.slice A5 n5 c5) ⟨35,2,by simp⟩)
 have s5:=((((hr5.sn.hsetL hh (w.heap.size+1+1) 0 (.bool b4) ⟨35,2,by simp⟩).hsetL (hh.set (w.heap.size+1+1) 0 (.bool b4) ⟨35,2,by simp⟩ (by simp)) (w.heap.size+1+1) 1 (.slice A4 n4 c4) ⟨35,2,by simp⟩).hsetL ((hh.set (w.heap.size+1+1) 0 (.bool b4) ⟨35,2,by simp⟩ (by simp)).set (w.heap.size+1+1) 1 (.slice A4 n4 c4) ⟨35,2,by simp⟩ (by simp)) (w.heap.size+1+1+1) 0 (.bool b5) ⟨35,2,by simp⟩).hsetL (((hh.set (w.heap.size+1+1) 0 (.bool b4) ⟨35,2,by simp⟩ (by simp)).set (w.heap.size+1+1) 1 (.slice A4 n4 c4) ⟨35,2,by simp⟩ (by simp)).set (w.heap.size+1+1+1) 0 (.bool b5) ⟨35,2,by simp⟩ (by simp)) (w.heap.size+1+1+1) 1 (.slice A5 n5 c5) ⟨35,2,by simp⟩)
 have r0:=e2.cell 0
 have r1:=e2.cell 1
 have r2:=e3.cell 0
 have r3:=e3.cell 1
 simp only [qqq2,qqq3,qqq0,qqq1] at r0 r1 r2 r3
 generalize ((((w5.setCell ⟨w.heap.size+1+1,0,none⟩ (.bool b4)).setCell ⟨w.heap.size+1+1,1,none⟩ (.slice A4 n4 c4)).setCell ⟨w.heap.size+1+1+1,0,none⟩ (.bool b5)).setCell ⟨w.heap.size+1+1+1,1,none⟩ (.slice A5 n5 c5))=wf at *
 go_wp2
 refine bodyPost_ret (v:=.tuple #[.agg #[.bool b4,.slice A4 n4 c4],.agg #[.bool b5,.slice A5 n5 c5],.bool true]) (by simp [results,Tryz.results147,go_sem,r0,r1,r2,r3];try rfl) rfl ?_
 refine ⟨⟨_,_,_,_,_,_,_,_,rfl,⟨hr4.sign.trans (by simp),s4⟩,⟨hr5.sign.trans (by simp),s5⟩⟩,HBB.out.trans (hg.below (by simp;try omega) (by omega))⟩
end Go.Proofs.YtdgleeglndcjhaaGreatDoor
