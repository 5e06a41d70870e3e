import Derived.Test.YtdgleeglndcjhaaGreatDoorW15
import Derived.Test.YtdgleeglndcjhaaGreatDoorW19
import Derived.Test.YtdgleeglndcjhaaGreatDoorW13
import Derived.Test.YtdgleeglndcjhaaGreatDoorW20
set_option linter.unusedSimpArgs false
set_option linter.unusedVariables false
set_option maxHeartbeats 64000000
set_option maxRecDepth 100000
namespace Go.Proofs.YtdgleeglndcjhaaGreatDoor
open Go.RowKit
theorem neq_of {α:Type} {l m:List α} {k:Nat} {x y:α} (hx:l[k]?=some x) (hy:m[k]?=some y) (h:x≠y):l≠m:=fun e=>by rw [e,hy] at hx;cases hx;exact h rfl
theorem same_rule (w:World) (A B:Option Addr) (n c m d:Nat) (l l':Rl) (h:RuleIs w A n c l) (h':RuleIs w B m d l') (hs:SmallR l) (hs':SmallR l') :
  Calls Tryz.prog 22 #[.slice A n c,.slice B m d] w fun e w'=>e=.returned (.bool (decide (l=l')))∧Below w.heap.size w w':=by
 obtain rfl:n=l.length:=h.len
 obtain rfl:m=l'.length:=h'.len
 have HA:=qh h
 have HB:=qh h'
 have HS:=qh hs
 have HS':=qh hs'
 have hl:=hs.1
 have hl':=hs'.1
 have hlI:(l.length:Int)≤1000:=by omega
 have hlI':(l'.length:Int)≤1000:=by omega
 clear h h' hs hs'
 by_cases hn:l.length=l'.length
 case neg =>
  have hnI:((l.length:Int) != (l'.length:Int))=true:=by simp only [bne,Bool.not_eq_true',beq_eq_false_iff_ne];omega
  have hd:decide (l=l')=false:=decide_eq_false (fun e=>hn (congrArg List.length e))
  rw [hd]
  clear hd hn
  go_enter Tryz.func22,Tryz.ntmps22
  go_wp2_with fail
  go_ret
  exact ⟨rfl,Below.refl _ _⟩
 have HN:=qh hn
 have hnI:((l.length:Int) != (l'.length:Int))=false:=by rw [hn];simp
 clear hn
 go_enter Tryz.func22,Tryz.ntmps22
 go_wp2_with fail
 go_loopw [5] (fun i wr=>EqW w l l' i wr) (fun i _=>l.length - (intOf i).toNat)
 case atStart=>exact ⟨0,Nat.zero_le _,rfl,rfl,Below.refl _ _⟩
 case round =>
  obtain ⟨k,hk,rfl,ht,hb⟩:=hrel
  have HT:=qh ht
  have HBR:=qh hb
  clear ht hb
  by_cases hlt:k<l.length
  case neg =>
   have hkI:¬ (k:Int)<(l.length:Int):=by omega
   have he:l=l':=by have:=HT.out;rw [List.take_of_length_le (by omega),List.take_of_length_le (by have:=HN.out;omega)] at this;exact this
   have HE:=qh he
   clear he
   go_wp2_with fail
   go_ret
   exact ⟨by rw [decide_eq_true HE.out];rfl,HBR.out⟩
  obtain ⟨b,o,hA,hc⟩:=HA.out.at (by omega)
  obtain ⟨b',o',hB,hc'⟩:=HB.out.at (by have:=HN.out;omega)
  subst hA
  subst hB
  obtain ⟨x,hx⟩:∃ x,l[k]?=some x:=⟨l[k],List.getElem?_eq_getElem hlt⟩
  obtain ⟨y,hy⟩:∃ y,l'[k]?=some y:=⟨l'[k]'(by have:=HN.out;omega),List.getElem?_eq_getElem _⟩
  obtain ⟨XA,xn,xc,k0,hXs⟩:=hc k x hx
  obtain ⟨YA,yn,yc,k1,hYs⟩:=hc' k y hy
  obtain rfl:xn=x.length:=hXs.len
  obtain rfl:yn=y.length:=hYs.len
  have HX:=qh hx
  have HY:=qh hy
  have HXS:=qh hXs
  have HYS:=qh hYs
  have hxl:=(HS.out.rows x (List.mem_of_getElem? hx)).1
  have hyl:=(HS'.out.rows y (List.mem_of_getElem? hy)).1
  have HXC:=qh (HS.out.rows x (List.mem_of_getElem? hx)).2
  have HYC:=qh (HS'.out.rows y (List.mem_of_getElem? hy)).2
  have hxI:(x.length:Int)≤1000:=by omega
  have hyI:(y.length:Int)≤1000:=by omega
  have hkI:(k:Int)<(l.length:Int):=by omega
  have hkJ:(k:Int)<(l'.length:Int):=by have:=HN.out;omega
  have hk0:(0:Int)≤(k:Int):=by omega
  have HK:Hid (∀ w',Below w.heap.size w w'→w'.cell? ⟨b,o+k,none⟩=some (.slice XA x.length xc)∧w'.cell? ⟨b',o'+k,none⟩=some (.slice YA y.length yc)):=fun w' h=>⟨(h.cell (World.block_lt_of_cell? w _ k0)).trans k0,(h.cell (World.block_lt_of_cell? w _ k1)).trans k1⟩
  clear hc hc' hx hy hXs hYs k0 k1
  obtain ⟨k0,k1⟩:=HK.out wr HBR.out
  by_cases hxy:x.length=y.length
  case neg =>
   have hqI:((x.length:Int) != (y.length:Int))=true:=by simp only [bne,Bool.not_eq_true',beq_eq_false_iff_ne];omega
   have HXY:=qh hxy
   clear hxy
   go_wp2_with fail
   go_quiet (fail)
   go_step
   go_wp2_with fail
   go_ret
   exact ⟨by rw [decide_eq_false (neq_of HX.out HY.out fun e=>HXY.out (congrArg List.length e))];rfl,below_drewN HBR.out _⟩
  have hqI:((x.length:Int) != (y.length:Int))=false:=by rw [hxy];simp
  have HXY:=qh hxy
  clear hxy
  go_wp2_with fail
  go_quiet (fail)
  go_step
  go_wp2_with fail
  obtain ⟨wo,rfl⟩:∃ wo:World,wo=wr:=⟨_,rfl⟩
  go_loopw [6] (fun i w2=>EqW w x y i w2) (fun i _=>x.length - (intOf i).toNat)
  case atStart=>exact ⟨0,Nat.zero_le _,rfl,rfl,below_drewN HBR.out _⟩
  case round =>
   obtain ⟨j,hj,rfl,ht,hb⟩:=hrel
   have HTJ:=qh ht
   have HBJ:=qh hb
   clear ht hb k0 k1 hqI
   obtain ⟨w2,rfl⟩:∃ w2:World,w2=wr:=⟨_,rfl⟩
   obtain ⟨k0,k1⟩:=HK.out w2 HBJ.out
   by_cases hjl:j<x.length
   case neg =>
    have hjI:¬ (j:Int)<(x.length:Int):=by omega
    have he:x=y:=by have:=HTJ.out;rw [List.take_of_length_le (by omega),List.take_of_length_le (by have:=HXY.out;omega)] at this;exact this
    have HE:=qh he
    clear he
    go_wp2_with fail
    go_roundw
    case rel=>exact ⟨k+1,by omega,by go_num,(take_eq HX.out HY.out).2 ⟨HT.out,HE.out⟩,HBJ.out⟩
    case measure=>simp [intOf];omega
   obtain ⟨xb,xo,hA,hc⟩:=HXS.out.at (by omega)
   obtain ⟨yb,yo,hB,hc'⟩:=HYS.out.at (by have:=HXY.out;omega)
   subst hA
   subst hB
   obtain ⟨p,hp⟩:∃ p,x[j]?=some p:=⟨x[j],List.getElem?_eq_getElem hjl⟩
   obtain ⟨q,hq⟩:∃ q,y[j]?=some q:=⟨y[j]'(by have:=HXY.out;omega),List.getElem?_eq_getElem _⟩
   obtain ⟨FA,fn,fc,TA,tn,tc,hF,hT,c0,c1,c2,c3,c4⟩:=hc j p hp
   obtain ⟨FB,fm,fd,TB,tm,td,hF',hT',d0,d1,d2,d3,d4⟩:=hc' j q hq
   obtain rfl:fn=p.fr.length:=hF.len
   obtain rfl:tn=p.to.length:=hT.len
   obtain rfl:fm=q.fr.length:=hF'.len
   obtain rfl:tm=q.to.length:=hT'.len
   have HP:=qh hp
   have HQ:=qh hq
   have HF:=qh hF
   have HTT:=qh hT
   have HF':=qh hF'
   have HT':=qh hT'
   have HPS:=qh (HXC.out p (List.mem_of_getElem? hp))
   have HQS:=qh (HYC.out q (List.mem_of_getElem? hq))
   have hjI:(j:Int)<(x.length:Int):=by omega
   have hjJ:(j:Int)<(y.length:Int):=by have:=HXY.out;omega
   have hj0:(0:Int)≤(j:Int):=by omega
   have HJ:Hid (∀ w',Below w.heap.size w w'→w'.cell? ⟨b,o+k,none⟩=some (.slice (some ⟨xb,xo,none⟩) x.length xc)∧w'.cell? ⟨b',o'+k,none⟩=some (.slice (some ⟨yb,yo,none⟩) y.length yc) ∧
     w'.cell? ⟨xb,xo+j * 5,none⟩=some (.int .u8 (p.letter:Int))∧w'.cell? ⟨xb,xo+j * 5+1,none⟩=some (.int .i64 p.mod)∧w'.cell? ⟨xb,xo+j * 5+2,none⟩=some (.bool p.nt)∧w'.cell? ⟨xb,xo+j * 5+3,none⟩=some (.slice FA p.fr.length fc)∧w'.cell? ⟨xb,xo+j * 5+4,none⟩=some (.slice TA p.to.length tc) ∧
     w'.cell? ⟨yb,yo+j * 5,none⟩=some (.int .u8 (q.letter:Int))∧w'.cell? ⟨yb,yo+j * 5+1,none⟩=some (.int .i64 q.mod)∧w'.cell? ⟨yb,yo+j * 5+2,none⟩=some (.bool q.nt)∧w'.cell? ⟨yb,yo+j * 5+3,none⟩=some (.slice FB q.fr.length fd)∧w'.cell? ⟨yb,yo+j * 5+4,none⟩=some (.slice TB q.to.length td)):=fun w' h =>
    have cc:∀ (a:Addr) u,a.spot=none→w.cell? a=some u→w'.cell? a=some u:=fun a u _ e=>(h.cell (World.block_lt_of_cell? w _ e)).trans e
    ⟨(HK.out w' h).1,(HK.out w' h).2,cc _ _ rfl c0,cc _ _ rfl c1,cc _ _ rfl c2,cc _ _ rfl c3,cc _ _ rfl c4,cc _ _ rfl d0,cc _ _ rfl d1,cc _ _ rfl d2,cc _ _ rfl d3,cc _ _ rfl d4⟩
   have hw2:=HBJ.out.size
   clear hc hc' hp hq hF hT hF' hT' c0 c1 c2 c3 c4 d0 d1 d2 d3 d4 k0 k1
   obtain ⟨k0,k1,-⟩:=HJ.out w2 HBJ.out
   go_upto_region 11 with fail
   clear k0 k1
   go_cut [7,8] (fun s7 s8 wx=>∃ g1 g2,s7=.pointer (some ⟨g1,0,none⟩)∧s8=.pointer (some ⟨g2,0,none⟩)∧Blk wx g1 118 [.int .u8 (p.letter:Int),.int .i64 p.mod,.bool p.nt,.slice FA p.fr.length fc,.slice TA p.to.length tc]∧Blk wx g2 118 [.int .u8 (q.letter:Int),.int .i64 q.mod,.bool q.nt,.slice FB q.fr.length fd,.slice TB q.to.length td]∧Below w.heap.size w wx)
   case first =>
    have HJB:Hid (w.heap.size≤w2.heap.size):=HBJ.out.size
    refine wp_region_but (fun w'=>Below w.heap.size w w') (by kernel_rfl) (by kernel_rfl) HBJ.out.drew (fun hHeld=>?_)
    simp only [initL,lastL]
    refine takeY (i:=0) (v:=?v1) ?hy1 ?rest1
    case hy1=>(intro wz hSz;(have hfz:=HJ.out wz hSz);go_split_ands;(first|(go_simp;done)|(go_simp;with_reducible rfl)))
    try simp only [Act.put,qqqT,qqq0,qqq1]
    refine takeY (i:=1) (v:=?v2) ?hy2 ?rest2
    case hy2=>(intro wz hSz;(have hfz:=HJ.out wz hSz);go_split_ands;(first|(go_simp;done)|(go_simp;with_reducible rfl)))
    try simp only [Act.put,qqqT,qqq0,qqq1]
    refine takeY (i:=2) (v:=?v3) ?hy3 ?rest3
    case hy3=>(intro wz hSz;(have hfz:=HJ.out wz hSz);go_split_ands;(first|(go_simp;done)|(go_simp;with_reducible rfl)))
    try simp only [Act.put,qqqT,qqq0,qqq1]
    refine takeY (i:=3) (v:=?v4) ?hy4 ?rest4
    case hy4=>(intro wz hSz;(have hfz:=HJ.out wz hSz);go_split_ands;(first|(go_simp;done)|(go_simp;with_reducible rfl)))
    try simp only [Act.put,qqqT,qqq0,qqq1]
    refine takeY (i:=4) (v:=?v5) ?hy5 ?rest5
    case hy5=>(intro wz hSz;(have hfz:=HJ.out wz hSz);go_split_ands;(first|(go_simp;done)|(go_simp;with_reducible rfl)))
    try simp only [Act.put,qqqT,qqq0,qqq1]
    refine takeY (i:=5) (v:=?v6) ?hy6 ?rest6
    case hy6=>(intro wz hSz;(have hfz:=HJ.out wz hSz);go_split_ands;(first|(go_simp;done)|(go_simp;with_reducible rfl)))
    try simp only [Act.put,qqqT,qqq0,qqq1]
    refine takeY (i:=6) (v:=?v7) ?hy7 ?rest7
    case hy7=>(intro wz hSz;(have hfz:=HJ.out wz hSz);go_split_ands;(first|(go_simp;done)|(go_simp;with_reducible rfl)))
    try simp only [Act.put,qqqT,qqq0,qqq1]
    refine takeY (i:=7) (v:=?v8) ?hy8 ?rest8
    case hy8=>(intro wz hSz;(have hfz:=HJ.out wz hSz);go_split_ands;(first|(go_simp;done)|(go_simp;with_reducible rfl)))
    try simp only [Act.put,qqqT,qqq0,qqq1]
    refine takeY (i:=8) (v:=?v9) ?hy9 ?rest9
    case hy9=>(intro wz hSz;(have hfz:=HJ.out wz hSz);go_split_ands;(first|(go_simp;done)|(go_simp;with_reducible rfl)))
    try simp only [Act.put,qqqT,qqq0,qqq1]
    refine takeY (i:=9) (v:=?v10) ?hy10 ?rest10
    case hy10=>(intro wz hSz;(have hfz:=HJ.out wz hSz);go_split_ands;(first|(go_simp;done)|(go_simp;with_reducible rfl)))
    try simp only [Act.put,qqqT,qqq0,qqq1]
    refine takeY (i:=10) (v:=?v11) ?hy11 ?rest11
    case hy11=>(intro wz hSz;(have hfz:=HJ.out wz hSz);go_split_ands;(first|(go_simp;done)|(go_simp;with_reducible rfl)))
    try simp only [Act.put,qqqT,qqq0,qqq1]
    refine takeY (i:=11) (v:=?v12) ?hy12 ?rest12
    case hy12=>(intro wz hSz;(have hfz:=HJ.out wz hSz);go_split_ands;(first|(go_simp;done)|(go_simp;with_reducible rfl)))
    try simp only [Act.put,qqqT,qqq0,qqq1]
    refine takeY (i:=12) (v:=?v13) ?hy13 ?rest13
    case hy13=>(intro wz hSz;(have hfz:=HJ.out wz hSz);go_split_ands;(first|(go_simp;done)|(go_simp;with_reducible rfl)))
    try simp only [Act.put,qqqT,qqq0,qqq1]
    refine takeY (i:=13) (v:=?v14) ?hy14 ?rest14
    case hy14=>(intro wz hSz;(have hfz:=HJ.out wz hSz);go_split_ands;(first|(go_simp;done)|(go_simp;with_reducible rfl)))
    try simp only [Act.put,qqqT,qqq0,qqq1]
    refine wpAnyH_ready (rs:=[14,15]) (by kernel_rfl) (by simp) ?_
    refine consL rfl (fun K hK=>?_) ?_
    ·skip
     go_simp
     try clear hHeld
     refine hK.out _ _ ((HBJ.out.drew.alloc (by have:=HJB.out;simp;try omega) _)) (fun hHeld=>?_)
     clear hK K
     try simp only [Act.put,qqqT,qqq0,qqq1]
     refine wpAnyH_ready (rs:=[15]) (by kernel_rfl) (by simp) ?_
     refine consL rfl (fun K hK=>?_) AllReadyH.nil
     go_simp
     try clear hHeld
     refine hK.out _ _ (((HBJ.out.drew.alloc (by have:=HJB.out;simp;try omega) _).alloc (by have:=HJB.out;simp;try omega) _)) (fun hHeld=>?_)
     clear hK K
     try simp only [Act.put,qqqT,qqq0,qqq1]
     clear hHeld
     refine wpAnyH_letter (fun wx=>Blk wx w2.heap.size 118 [.int .u8 0,.int .i64 0,.bool false,.slice none 0 0,.slice none 0 0]∧Blk wx (w2.heap.size+1) 118 [.int .u8 0,.int .i64 0,.bool false,.slice none 0 0,.slice none 0 0]∧Below w.heap.size w wx) ⟨(Blk.made _ 118 _ _ _ (by simp) rfl).alloc _,Blk.made _ 118 _ _ _ (by simp) rfl,((HBJ.out.drew.alloc (by have:=HJB.out;simp;try omega) _).alloc (by have:=HJB.out;simp;try omega) _)⟩ ?_
     rintro wx ⟨z1,z2,hHeld⟩
     have Z1:=qh z1
     have Z2:=qh z2
     have Z3:=qh hHeld
     obtain ⟨k0,k1,k2,k3,k4,f0,f1,f2,f3,f4⟩:=z1.cf5
     clear z1 z2
     refine wpAnyH_ready (rs:=[16]) (by kernel_rfl) (by simp) ?_
     refine consL rfl (fun K hK=>?_) AllReadyH.nil
     go_simp
     try clear hHeld
     refine hK.out _ _ ((((((Z3.out.setCell (by have:=HJB.out;simp;try omega) _).setCell (by have:=HJB.out;simp;try omega) _).setCell (by have:=HJB.out;simp;try omega) _).setCell (by have:=HJB.out;simp;try omega) _).setCell (by have:=HJB.out;simp;try omega) _)) (fun hHeld=>?_)
     clear hK K
     try simp only [Act.put,qqqT,qqq0,qqq1]
     clear hHeld k0 k1 k2 k3 k4 f0 f1 f2 f3 f4
     refine wpAnyH_letter (fun wy=>Blk wy w2.heap.size 118 [.int .u8 (p.letter:Int),.int .i64 p.mod,.bool p.nt,.slice FA p.fr.length fc,.slice TA p.to.length tc]∧Blk wy (w2.heap.size+1) 118 [.int .u8 0,.int .i64 0,.bool false,.slice none 0 0,.slice none 0 0]∧Below w.heap.size w wy) ⟨(((((Z1.out.put 0 (.int .u8 (p.letter:Int))).put 1 (.int .i64 p.mod)).put 2 (.bool p.nt)).put 3 (.slice FA p.fr.length fc)).put 4 (.slice TA p.to.length tc)),(blk_far (blk_far (blk_far (blk_far (blk_far Z2.out ⟨w2.heap.size,0,none⟩ (.int .u8 (p.letter:Int)) (by simp)) ⟨w2.heap.size,1,none⟩ (.int .i64 p.mod) (by simp)) ⟨w2.heap.size,2,none⟩ (.bool p.nt) (by simp)) ⟨w2.heap.size,3,none⟩ (.slice FA p.fr.length fc) (by simp)) ⟨w2.heap.size,4,none⟩ (.slice TA p.to.length tc) (by simp)),(((((Z3.out.setCell (by have:=HJB.out;simp;try omega) _).setCell (by have:=HJB.out;simp;try omega) _).setCell (by have:=HJB.out;simp;try omega) _).setCell (by have:=HJB.out;simp;try omega) _).setCell (by have:=HJB.out;simp;try omega) _)⟩ ?_
     rintro wy ⟨z1,z2,hHeld⟩
     have Y1:=qh z1
     have Y2:=qh z2
     have Y3:=qh hHeld
     obtain ⟨k0,k1,k2,k3,k4,f0,f1,f2,f3,f4⟩:=z2.cf5
     clear z1 z2
     refine wpAnyH_done (by kernel_rfl) ?_ _
     clear hHeld
     unfold TailQ
     go_wp2_with fail
     go_meet
     exact ⟨_,_,rfl,rfl,(blk_far (blk_far (blk_far (blk_far (blk_far Y1.out ⟨(w2.heap.size+1),0,none⟩ (.int .u8 (q.letter:Int)) (by simp)) ⟨(w2.heap.size+1),1,none⟩ (.int .i64 q.mod) (by simp)) ⟨(w2.heap.size+1),2,none⟩ (.bool q.nt) (by simp)) ⟨(w2.heap.size+1),3,none⟩ (.slice FB q.fr.length fd) (by simp)) ⟨(w2.heap.size+1),4,none⟩ (.slice TB q.to.length td) (by simp)),(((((Y2.out.put 0 (.int .u8 (q.letter:Int))).put 1 (.int .i64 q.mod)).put 2 (.bool q.nt)).put 3 (.slice FB q.fr.length fd)).put 4 (.slice TB q.to.length td)),(((((Y3.out.setCell (by have:=HJB.out;simp;try omega) _).setCell (by have:=HJB.out;simp;try omega) _).setCell (by have:=HJB.out;simp;try omega) _).setCell (by have:=HJB.out;simp;try omega) _).setCell (by have:=HJB.out;simp;try omega) _)⟩
    refine consL rfl (fun K hK=>?_) AllReadyH.nil
    go_simp
    try clear hHeld
    refine hK.out _ _ ((HBJ.out.drew.alloc (by have:=HJB.out;simp;try omega) _)) (fun hHeld=>?_)
    clear hK K
    try simp only [Act.put,qqqT,qqq0,qqq1]
    refine wpAnyH_ready (rs:=[14]) (by kernel_rfl) (by simp) ?_
    refine consL rfl (fun K hK=>?_) AllReadyH.nil
    go_simp
    try clear hHeld
    refine hK.out _ _ (((HBJ.out.drew.alloc (by have:=HJB.out;simp;try omega) _).alloc (by have:=HJB.out;simp;try omega) _)) (fun hHeld=>?_)
    clear hK K
    try simp only [Act.put,qqqT,qqq0,qqq1]
    clear hHeld
    refine wpAnyH_letter (fun wx=>Blk wx (w2.heap.size+1) 118 [.int .u8 0,.int .i64 0,.bool false,.slice none 0 0,.slice none 0 0]∧Blk wx w2.heap.size 118 [.int .u8 0,.int .i64 0,.bool false,.slice none 0 0,.slice none 0 0]∧Below w.heap.size w wx) ⟨Blk.made _ 118 _ _ _ (by simp) rfl,(Blk.made _ 118 _ _ _ (by simp) rfl).alloc _,((HBJ.out.drew.alloc (by have:=HJB.out;simp;try omega) _).alloc (by have:=HJB.out;simp;try omega) _)⟩ ?_
    rintro wx ⟨z1,z2,hHeld⟩
    have Z1:=qh z1
    have Z2:=qh z2
    have Z3:=qh hHeld
    obtain ⟨k0,k1,k2,k3,k4,f0,f1,f2,f3,f4⟩:=z1.cf5
    clear z1 z2
    refine wpAnyH_ready (rs:=[16]) (by kernel_rfl) (by simp) ?_
    refine consL rfl (fun K hK=>?_) AllReadyH.nil
    go_simp
    try clear hHeld
    refine hK.out _ _ ((((((Z3.out.setCell (by have:=HJB.out;simp;try omega) _).setCell (by have:=HJB.out;simp;try omega) _).setCell (by have:=HJB.out;simp;try omega) _).setCell (by have:=HJB.out;simp;try omega) _).setCell (by have:=HJB.out;simp;try omega) _)) (fun hHeld=>?_)
    clear hK K
    try simp only [Act.put,qqqT,qqq0,qqq1]
    clear hHeld k0 k1 k2 k3 k4 f0 f1 f2 f3 f4
    refine wpAnyH_letter (fun wy=>Blk wy (w2.heap.size+1) 118 [.int .u8 (p.letter:Int),.int .i64 p.mod,.bool p.nt,.slice FA p.fr.length fc,.slice TA p.to.length tc]∧Blk wy w2.heap.size 118 [.int .u8 0,.int .i64 0,.bool false,.slice none 0 0,.slice none 0 0]∧Below w.heap.size w wy) ⟨(((((Z1.out.put 0 (.int .u8 (p.letter:Int))).put 1 (.int .i64 p.mod)).put 2 (.bool p.nt)).put 3 (.slice FA p.fr.length fc)).put 4 (.slice TA p.to.length tc)),(blk_far (blk_far (blk_far (blk_far (blk_far Z2.out ⟨(w2.heap.size+1),0,none⟩ (.int .u8 (p.letter:Int)) (by simp)) ⟨(w2.heap.size+1),1,none⟩ (.int .i64 p.mod) (by simp)) ⟨(w2.heap.size+1),2,none⟩ (.bool p.nt) (by simp)) ⟨(w2.heap.size+1),3,none⟩ (.slice FA p.fr.length fc) (by simp)) ⟨(w2.heap.size+1),4,none⟩ (.slice TA p.to.length tc) (by simp)),(((((Z3.out.setCell (by have:=HJB.out;simp;try omega) _).setCell (by have:=HJB.out;simp;try omega) _).setCell (by have:=HJB.out;simp;try omega) _).setCell (by have:=HJB.out;simp;try omega) _).setCell (by have:=HJB.out;simp;try omega) _)⟩ ?_
    rintro wy ⟨z1,z2,hHeld⟩
    have Y1:=qh z1
    have Y2:=qh z2
    have Y3:=qh hHeld
    obtain ⟨k0,k1,k2,k3,k4,f0,f1,f2,f3,f4⟩:=z2.cf5
    clear z1 z2
    refine wpAnyH_done (by kernel_rfl) ?_ _
    clear hHeld
    unfold TailQ
    go_wp2_with fail
    go_meet
    exact ⟨_,_,rfl,rfl,(blk_far (blk_far (blk_far (blk_far (blk_far Y1.out ⟨w2.heap.size,0,none⟩ (.int .u8 (q.letter:Int)) (by simp)) ⟨w2.heap.size,1,none⟩ (.int .i64 q.mod) (by simp)) ⟨w2.heap.size,2,none⟩ (.bool q.nt) (by simp)) ⟨w2.heap.size,3,none⟩ (.slice FB q.fr.length fd) (by simp)) ⟨w2.heap.size,4,none⟩ (.slice TB q.to.length td) (by simp)),(((((Y2.out.put 0 (.int .u8 (q.letter:Int))).put 1 (.int .i64 q.mod)).put 2 (.bool q.nt)).put 3 (.slice FB q.fr.length fd)).put 4 (.slice TB q.to.length td)),(((((Y3.out.setCell (by have:=HJB.out;simp;try omega) _).setCell (by have:=HJB.out;simp;try omega) _).setCell (by have:=HJB.out;simp;try omega) _).setCell (by have:=HJB.out;simp;try omega) _).setCell (by have:=HJB.out;simp;try omega) _)⟩
   case rest =>
    obtain ⟨g1,g2,rfl,rfl,z1,z2,hB⟩:=hcut
    have Z1:=qh z1
    have Z2:=qh z2
    have ZB:=qh hB
    have hz1:=z1.lt
    have hz2:=z2.lt
    obtain ⟨e0,e1,e2,e3,e4⟩:=z1.c5
    obtain ⟨f0,f1,f2,f3,f4⟩:=z2.c5
    clear z1 z2 hB
    have HNE:Hid (p≠q→l≠l'):=fun h e=>neq_of HP.out HQ.out h (by have h1:=HX.out;have h2:=HY.out;rw [e,h2] at h1;cases h1;rfl)
    obtain ⟨wc2,rfl⟩:∃ wc2:World,wc2=wc:=⟨_,rfl⟩
    by_cases h0:p.letter=q.letter
    case neg =>
     have hI:((p.letter:Int) != (q.letter:Int))=true:=by simp only [bne,Bool.not_eq_true',beq_eq_false_iff_ne];omega
     have HD:Hid (p≠q):=fun e=>h0 (by rw [e])
     go_wp2_with fail
     go_ret
     exact ⟨by rw [decide_eq_false (HNE.out HD.out)];rfl,ZB.out⟩
    have hI0:((p.letter:Int) != (q.letter:Int))=false:=by simp only [bne,Bool.not_eq_false',beq_iff_eq];omega
    by_cases h1:p.mod=q.mod
    case neg =>
     have hI:(p.mod != q.mod)=true:=by simp only [bne,Bool.not_eq_true',beq_eq_false_iff_ne];exact h1
     have HD:Hid (p≠q):=fun e=>h1 (by rw [e])
     go_wp2_with fail
     go_ret
     exact ⟨by rw [decide_eq_false (HNE.out HD.out)];rfl,ZB.out⟩
    have hI1:(p.mod != q.mod)=false:=by simp only [bne,Bool.not_eq_false',beq_iff_eq];exact h1
    by_cases h2:p.nt=q.nt
    case neg =>
     have hI:(p.nt != q.nt)=true:=by simp only [bne,Bool.not_eq_true',beq_eq_false_iff_ne];exact h2
     have HD:Hid (p≠q):=fun e=>h2 (by rw [e])
     go_wp2_with fail
     go_ret
     exact ⟨by rw [decide_eq_false (HNE.out HD.out)];rfl,ZB.out⟩
    have hI2:(p.nt != q.nt)=false:=by simp only [bne,Bool.not_eq_false',beq_iff_eq];exact h2
    by_cases h3:p.fr.length=q.fr.length
    case neg =>
     have hI:((p.fr.length:Int) != (q.fr.length:Int))=true:=by simp only [bne,Bool.not_eq_true',beq_eq_false_iff_ne];omega
     have HD:Hid (p≠q):=fun e=>h3 (by rw [e])
     go_wp2_with fail
     go_ret
     exact ⟨by rw [decide_eq_false (HNE.out HD.out)];rfl,ZB.out⟩
    have hI3:((p.fr.length:Int) != (q.fr.length:Int))=false:=by simp only [bne,Bool.not_eq_false',beq_iff_eq];omega
    by_cases h4:p.to.length=q.to.length
    case neg =>
     have hI:((p.to.length:Int) != (q.to.length:Int))=true:=by simp only [bne,Bool.not_eq_true',beq_eq_false_iff_ne];omega
     have HD:Hid (p≠q):=fun e=>h4 (by rw [e])
     go_wp2_with fail
     go_ret
     exact ⟨by rw [decide_eq_false (HNE.out HD.out)];rfl,ZB.out⟩
    have hI4:((p.to.length:Int) != (q.to.length:Int))=false:=by simp only [bne,Bool.not_eq_false',beq_iff_eq];omega
    have HE0:=qh h0
    have HE1:=qh h1
    have HE2:=qh h2
    have HE3:=qh h3
    have HE4:=qh h4
    clear h0 h1 h2 h3 h4
    go_wp2_with fail
    go_loopw [9] (fun i w3=>EqW wc2 p.fr q.fr i w3) (fun i _=>p.fr.length - (intOf i).toNat)
    case atStart=>exact ⟨0,Nat.zero_le _,rfl,rfl,Below.refl _ _⟩
    case round =>
     obtain ⟨rfr,hr,rfl,ht,hb⟩:=hrel
     obtain ⟨wfr,rfl⟩:∃ wfr:World,wfr=wr:=⟨_,rfl⟩
     have HTfr:=qh ht
     have HBfr:=qh hb
     have hg1:wfr.cell? ⟨g1,3,none⟩=some (.slice FA p.fr.length fc):=(Z1.out.below hb Z1.out.lt).cell 3
     have hg2:wfr.cell? ⟨g2,3,none⟩=some (.slice FB q.fr.length fd):=(Z2.out.below hb Z2.out.lt).cell 3
     have hpl:p.fr.length≤1000:=HPS.out.nf
     have hplI:(p.fr.length:Int)≤1000:=by omega
     clear ht hb
     by_cases hrl:rfr<p.fr.length
     case neg =>
      have hrI:¬ (rfr:Int)<(p.fr.length:Int):=by omega
      have he:p.fr=q.fr:=by have:=HTfr.out;rw [List.take_of_length_le (by omega),List.take_of_length_le (by have:=HE3.out;omega)] at this;exact this
      have HEQfr:=qh he
      clear he
      go_wp2_with fail
      go_loopw [10] (fun i w3=>EqW wfr p.to q.to i w3) (fun i _=>p.to.length - (intOf i).toNat)
      case atStart=>exact ⟨0,Nat.zero_le _,rfl,rfl,Below.refl _ _⟩
      case round =>
       obtain ⟨rto,hr,rfl,ht,hb⟩:=hrel
       obtain ⟨wto,rfl⟩:∃ wto:World,wto=wr:=⟨_,rfl⟩
       have HTto:=qh ht
       have HBto:=qh hb
       have hg1:wto.cell? ⟨g1,4,none⟩=some (.slice TA p.to.length tc):=(Z1.out.below (HBfr.out.trans (hb.mono HBfr.out.size)) Z1.out.lt).cell 4
       have hg2:wto.cell? ⟨g2,4,none⟩=some (.slice TB q.to.length td):=(Z2.out.below (HBfr.out.trans (hb.mono HBfr.out.size)) Z2.out.lt).cell 4
       have hpl:p.to.length≤1000:=HPS.out.nt
       have hplI:(p.to.length:Int)≤1000:=by omega
       clear ht hb
       by_cases hrl:rto<p.to.length
       case neg =>
        have hrI:¬ (rto:Int)<(p.to.length:Int):=by omega
        have he:p.to=q.to:=by have:=HTto.out;rw [List.take_of_length_le (by omega),List.take_of_length_le (by have:=HE4.out;omega)] at this;exact this
        have HEQto:=qh he
        clear he
        go_wp2_with fail
        have HPQ:Hid (p=q):=cnd_eq.2 ⟨HE0.out,HE1.out,HE2.out,HEQfr.out,HEQto.out⟩
        go_roundw
        case rel=>exact ⟨j+1,by omega,by go_num,(take_eq HP.out HQ.out).2 ⟨HTJ.out,HPQ.out⟩,ZB.out.trans ((HBfr.out.trans (HBto.out.mono HBfr.out.size)).mono ZB.out.size)⟩
        case measure=>simp [intOf];omega
       obtain ⟨ab,ao,hAA,ha⟩:=(HTT.out.below (ZB.out.trans ((HBfr.out.trans (HBto.out.mono HBfr.out.size)).mono ZB.out.size)) ql).at (by omega)
       obtain ⟨bb,bo,hBB,hb⟩:=(HT'.out.below (ZB.out.trans ((HBfr.out.trans (HBto.out.mono HBfr.out.size)).mono ZB.out.size)) ql).at (by have:=HE4.out;omega)
       subst hAA
       subst hBB
       obtain ⟨a,haa⟩:∃ a,p.to[rto]?=some a:=⟨p.to[rto],List.getElem?_eq_getElem hrl⟩
       obtain ⟨b9,hbb⟩:∃ b9,q.to[rto]?=some b9:=⟨q.to[rto]'(by have:=HE4.out;omega),List.getElem?_eq_getElem _⟩
       have m0:=ha rto a haa
       have m1:=hb rto b9 hbb
       have HAA:=qh haa
       have HBB:=qh hbb
       have hrI:(rto:Int)<(p.to.length:Int):=by omega
       have hrJ:(rto:Int)<(q.to.length:Int):=by have:=HE4.out;omega
       have hr0:(0:Int)≤(rto:Int):=by omega
       clear ha hb haa hbb
       by_cases hab:a=b9
       ·have habI:(a != b9)=false:=by simp only [bne,Bool.not_eq_false',beq_iff_eq];exact hab
        have HAB:=qh hab
        clear hab
        go_wp2_with fail
        go_quiet (fail)
        go_step
        go_wp2_with fail
        go_roundw
        case rel=>exact ⟨rto+1,by omega,by go_num,(take_eq HAA.out HBB.out).2 ⟨HTto.out,HAB.out⟩,below_drewN HBto.out _⟩
        case measure=>simp [intOf];omega
       ·have habI:(a != b9)=true:=by simp only [bne,Bool.not_eq_true',beq_eq_false_iff_ne];exact hab
        have HD:Hid (p≠q):=fun e=>neq_of HAA.out HBB.out hab (by rw [e])
        clear hab
        go_wp2_with fail
        go_quiet (fail)
        go_step
        go_wp2_with fail
        go_ret
        exact ⟨by rw [decide_eq_false (HNE.out HD.out)];rfl,below_drewN (ZB.out.trans ((HBfr.out.trans (HBto.out.mono HBfr.out.size)).mono ZB.out.size)) _⟩
     obtain ⟨ab,ao,hAA,ha⟩:=(HF.out.below (ZB.out.trans (HBfr.out.mono ZB.out.size)) ql).at (by omega)
     obtain ⟨bb,bo,hBB,hb⟩:=(HF'.out.below (ZB.out.trans (HBfr.out.mono ZB.out.size)) ql).at (by have:=HE3.out;omega)
     subst hAA
     subst hBB
     obtain ⟨a,haa⟩:∃ a,p.fr[rfr]?=some a:=⟨p.fr[rfr],List.getElem?_eq_getElem hrl⟩
     obtain ⟨b9,hbb⟩:∃ b9,q.fr[rfr]?=some b9:=⟨q.fr[rfr]'(by have:=HE3.out;omega),List.getElem?_eq_getElem _⟩
     have m0:=ha rfr a haa
     have m1:=hb rfr b9 hbb
     have HAA:=qh haa
     have HBB:=qh hbb
     have hrI:(rfr:Int)<(p.fr.length:Int):=by omega
     have hrJ:(rfr:Int)<(q.fr.length:Int):=by have:=HE3.out;omega
     have hr0:(0:Int)≤(rfr:Int):=by omega
     clear ha hb haa hbb
     by_cases hab:a=b9
     ·have habI:(a != b9)=false:=by simp only [bne,Bool.not_eq_false',beq_iff_eq];exact hab
      have HAB:=qh hab
      clear hab
      go_wp2_with fail
      go_quiet (fail)
      go_step
      go_wp2_with fail
      go_roundw
      case rel=>exact ⟨rfr+1,by omega,by go_num,(take_eq HAA.out HBB.out).2 ⟨HTfr.out,HAB.out⟩,below_drewN HBfr.out _⟩
      case measure=>simp [intOf];omega
     ·have habI:(a != b9)=true:=by simp only [bne,Bool.not_eq_true',beq_eq_false_iff_ne];exact hab
      have HD:Hid (p≠q):=fun e=>neq_of HAA.out HBB.out hab (by rw [e])
      clear hab
      go_wp2_with fail
      go_quiet (fail)
      go_step
      go_wp2_with fail
      go_ret
      exact ⟨by rw [decide_eq_false (HNE.out HD.out)];rfl,below_drewN (ZB.out.trans (HBfr.out.mono ZB.out.size)) _⟩
theorem Tryz_info118:(Tryz.prog.info? 118).map (fun i=>(i.zero,i.size,i.bytes))=some (some (.agg #[.int .u8 0,.int .i64 0,.bool false,.slice none 0 0,.slice none 0 0]),5,72):=by kernel_rfl
theorem Tryz_info121:(Tryz.prog.info? 121).map (fun i=>(i.zero,i.size,i.bytes))=some (some (.slice none 0 0),1,24):=by kernel_rfl
structure RowA (W wr:World) (v x:Value) (l:List Cnd):Prop where
 ex:∃ es:List E3,es.map (·.1)=l∧SlC wr x 5 es.length (cellsC es)∧∀ e ∈ es,IntsV W e.2.1 e.1.fr∧IntsV W e.2.2 e.1.to
 ap:∀ k,x.ownBlock=some k→k<wr.heap.size∧v.ownBlock≠some k
theorem RowA.step {W wr w':World} {v v' x:Value} {l:List Cnd} (h:RowA W wr v x l) (hs:wr.heap.size≤w'.heap.size) (hk:∀ b,b<wr.heap.size→some b≠v.ownBlock→w'.heap[b]?=wr.heap[b]?)
  (hv:v'.ownBlock=v.ownBlock∨∃ k,v'.ownBlock=some k∧wr.heap.size≤k):RowA W w' v' x l:=by
 obtain ⟨⟨es,h1,h2,h3⟩,h4⟩:=h
 refine ⟨⟨es,h1,h2.stable fun k hk' hlt=>hk k hlt (fun e=>(h4 k hk').2 e.symm),h3⟩,fun k hk'=>⟨Nat.lt_of_lt_of_le (h4 k hk').1 hs,fun e=>?_⟩⟩
 rcases hv with hv|⟨j,hj,hlt⟩
 ·exact (h4 k hk').2 (hv ▸ e)
 ·rw [hj] at e;cases e;exact absurd (h4 k hk').1 (by omega)
theorem RowA.below {W wr w':World} {v x:Value} {l:List Cnd} (h:RowA W wr v x l) (hb:Below wr.heap.size wr w'):RowA W w' v x l:=h.step hb.size (fun b hlt _=>hb.block b hlt) (.inl rfl)
def InO (W0 W:World) (l:List Cnd) (v i:Value) (wr:World):Prop :=
 ∃ (k:Nat) (es:List E3),k≤l.length∧i=.int .i64 k∧es.length=k∧es.map (·.1)=l.take k∧wr.ownsRow W.heap.size 118 5 v es.length (cellsC es)∧(∀ e ∈ es,IntsV W0 e.2.1 e.1.fr∧IntsV W0 e.2.2 e.1.to)∧Below W.heap.size W wr
def OutO (W:World) (r:Rl) (v i:Value) (wr:World):Prop :=
 ∃ (k:Nat) (xs:List Value),k≤r.length∧i=.int .i64 k∧xs.length=k∧wr.ownsRow W.heap.size 121 1 v xs.length xs∧F2 (RowA W wr v) xs (r.take k)∧Below W.heap.size W wr
theorem rule_Of (w:World) (A:Option Addr) (n c:Nat) (r:Rl) (h:RuleIs w A n c r) (hs:SmallR r) :
  Calls Tryz.prog 23 #[.agg #[.slice A n c]] w fun e w'=>∃ A' n' c',e=.returned (.slice A' n' c')∧RuleIs w' A' n' c' r∧Below w.heap.size w w':=by
 obtain rfl:n=r.length:=h.len
 obtain ⟨i7,hi7,hz70,hz71,hz72⟩:=info_parts Tryz_info118
 obtain ⟨i8,hi8,hz80,hz81,hz82⟩:=info_parts Tryz_info121
 have HX:=qh h
 have HS:=qh hs
 have hl:=hs.1
 have hlI:(r.length:Int)≤1000:=by omega
 have hmx:=maxLen_ge
 clear h hs
 go_enter Tryz.func23,Tryz.ntmps23
 go_upto_region 1 with fail
 refine wp_letter (fun W=>Blk W w.heap.size 30 [.slice A r.length c]∧RuleIs W A r.length c r∧Below w.heap.size w W) ⟨Blk.made _ 30 _ _ _ rfl rfl,HX.out.below ((Below.refl _ _).alloc ql _) ql,(Below.refl _ _).alloc ql _⟩ ?_
 rintro W ⟨b0,hx,hb⟩
 have B0:=qh b0
 have RX:=qh hx
 have HB:=qh hb
 clear b0 hx hb HX
 go_wp2_with fail
 go_loopw [3,4] (fun v i wr=>OutO W r v i wr) (fun _ i _=>r.length - (intOf i).toNat)
 case atStart=>exact ⟨0,[],Nat.zero_le _,rfl,rfl,World.ownsRow_nil _ _ _ _,.nil,Below.refl _ _⟩
 case round =>
  obtain ⟨k,xs,hk,rfl,hxk,hown,hrows,hbr⟩:=hrel
  subst hxk
  obtain ⟨wo,rfl⟩:∃ wo:World,wo=wr:=⟨_,rfl⟩
  have HO:=qh hown
  have HR:=qh hrows
  have HBR:=qh hbr
  have k0:wo.cell? ⟨w.heap.size,0,none⟩=some (.slice A r.length c):=(B0.out.below hbr B0.out.lt).cell 0
  clear hown hrows hbr
  by_cases hlt:xs.length<r.length
  case neg =>
   have hkI:¬ (xs.length:Int)<(r.length:Int):=by omega
   have hform:=SlC.own HO.out
   obtain ⟨A',c',rfl,-⟩:=hform
   go_wp2_with fail
   go_ret
   refine ⟨A',_,c',rfl,⟨xs,?_,?_⟩,HB.out.trans (HBR.out.mono HB.out.size)⟩
   ·have h1:=SlC.own HO.out
    have e:xs.length=r.length:=by omega
    rw [e] at h1 ⊢;exact h1
   ·have h2:=HR.out
    rw [List.take_of_length_le (by omega)] at h2
    refine h2.mono fun x l hx=>?_
    obtain ⟨⟨es,h3,h4,h5⟩,-⟩:=hx
    obtain ⟨A2,c2,rfl,-⟩:=id h4
    exact ⟨A2,_,c2,rfl,es,h3,h4,fun e he=>⟨(h5 e he).1.below HBR.out ql,(h5 e he).2.below HBR.out ql⟩⟩
  obtain ⟨b,o,rfl,hc⟩:=RX.out.at (by omega)
  obtain ⟨l,hlx⟩:∃ l,r[xs.length]?=some l:=⟨r[xs.length],List.getElem?_eq_getElem hlt⟩
  obtain ⟨LA,ln,lc,m0,hL⟩:=hc xs.length l hlx
  obtain rfl:ln=l.length:=hL.len
  have HL:=qh hL
  have HLX:=qh hlx
  have hll:=(HS.out.rows l (List.mem_of_getElem? hlx)).1
  have hllI:(l.length:Int)≤1000:=by omega
  have hkI:(xs.length:Int)<(r.length:Int):=by omega
  have hk0:(0:Int)≤(xs.length:Int):=by omega
  have HM:Hid (∀ w',Below W.heap.size W w'→w'.cell? ⟨w.heap.size,0,none⟩=some (.slice (some ⟨b,o,none⟩) r.length c)∧w'.cell? ⟨b,o+xs.length,none⟩=some (.slice LA l.length lc)):=fun w' h=>⟨(B0.out.below h B0.out.lt).cell 0,(h.cell (World.block_lt_of_cell? W _ m0)).trans m0⟩
  clear hc hL hlx m0
  go_wp2_with fail
  go_loopw [5,6] (fun v i wr=>InO W wo l v i wr) (fun _ i _=>l.length - (intOf i).toNat)
  case atStart=>exact ⟨0,[],Nat.zero_le _,rfl,rfl,rfl,World.ownsRow_nil _ _ _ _,fun e he=>(by cases he),Below.refl _ _⟩
  case round =>
   obtain ⟨j,es,hj,rfl,hel,hes,hown,hints,hbi⟩:=hrel
   subst hel
   obtain ⟨wi,rfl⟩:∃ wi:World,wi=wr:=⟨_,rfl⟩
   have HOI:=qh hown
   have HES:=qh hes
   have HIN:=qh hints
   have HBI:=qh hbi
   have HBW:=qh (HBR.out.trans (hbi.mono HBR.out.size))
   have hsz:=hbi.size
   have hszW:=HBW.out.size
   obtain ⟨m0,m1⟩:=HM.out wi HBW.out
   clear hown hes hints hbi k0
   by_cases hjl:es.length<l.length
   case neg =>
    have hjI:¬ (es.length:Int)<(l.length:Int):=by omega
    obtain ⟨A',c',e5,-⟩:=SlC.own HOI.out
    subst e5
    have hrow:RowA W wi u3 (.slice A' es.length c') l:=by
     have h1:=HES.out
     rw [List.take_of_length_le (by omega)] at h1
     exact ⟨⟨es,h1,SlC.own HOI.out,HIN.out⟩,fun k hk=>⟨(World.ownsRow.lt HOI.out k hk).2,fun e=>by have:=(World.ownsRow.lt HO.out k e).2;have:=(World.ownsRow.lt HOI.out k hk).1;omega⟩⟩
    have HRW:=qh hrow
    have HO2:=qh (own_kept_below HO.out HBI.out)
    have HR2:=qh (HR.out.mono fun x l h=>h.below HBI.out)
    clear hrow
    go_wp2_with (at_builtin;refine wpList_append_lies _ (by rfl) (.tmp 47) (.tmp 49) 58 (by rfl) W.heap.size 121 i8 (.slice none 0 0) 1 24 Tryz.underlying58 hi8 hz80 hz81 hz82 rfl (by decide) u3 xs.length xs (by rfl) (World.ownsRow.alloc HO2.out _) ⟨wi.heap.size,0,none⟩ 1 1 [.slice A' es.length c'] (by rfl) rfl (cell_one_new _ _ _) (by simp [Value.oneCell']) (by omega) (by omega) (by omega) (by simp;omega) (wi.heap.size+1) (by simp) ?_;intro g1 cap1 w7 hown7 hgrow7 hat7 hlt7;have HO7:=qh hown7;have HG7:=qh hgrow7;have HAT7:=qh hat7;clear hown7 hgrow7 hat7)
    go_roundw
    case rel =>
     refine ⟨xs.length+1,xs ++ [.slice A' es.length c'],by omega,by go_num,by simp,?_,?_,?_⟩
     ·rw [List.length_append];exact HO7.out
     ·have hal:Below wi.heap.size wi (wi.alloc (.cells #[.slice A' es.length c'] 121)):=(Below.refl _ _).alloc ql _
      have hst:∀ x m,RowA W wi u3 x m→RowA W w7 (.slice (some ⟨g1,0,none⟩) (xs.length+1) cap1) x m:=fun x m hx =>
       (hx.below hal).step HG7.out.size (fun b hb hn=>HG7.out.block b hb hn) (by
        rcases HAT7.out with e|e
        ·exact .inl e.symm
        ·exact .inr ⟨g1,rfl,by rw [e];simp⟩)
      rw [List.take_add_one,HLX.out]
      exact F2.snoc (HR2.out.mono hst) (hst _ _ HRW.out)
     ·exact below_grown (HBW.out.alloc HBW.out.size _) HG7.out (Nat.le_trans HBW.out.size (by simp)) (fun k hk=>(World.ownsRow.lt HO2.out k hk).1)
    case measure=>simp [intOf];omega
   obtain ⟨xb,xo,rfl,hc⟩:=HL.out.at (by omega)
   obtain ⟨d,hd⟩:∃ d,l[es.length]?=some d:=⟨l[es.length],List.getElem?_eq_getElem hjl⟩
   obtain ⟨FA,fn,fc,TA,tn,tc,hF,hT,c0,c1,c2,c3,c4⟩:=hc es.length d hd
   have HD:=qh hd
   have HF:=qh hF
   have HTT:=qh hT
   have cc:∀ (a:Addr) u,W.cell? a=some u→wi.cell? a=some u:=fun a u e=>(HBW.out.cell (World.block_lt_of_cell? W _ e)).trans e
   have q0:=cc _ _ c0
   have q1:=cc _ _ c1
   have q2:=cc _ _ c2
   have q3:=cc _ _ c3
   have q4:=cc _ _ c4
   have hjI:(es.length:Int)<(l.length:Int):=by omega
   have hj0:(0:Int)≤(es.length:Int):=by omega
   clear hc hd hF hT c0 c1 c2 c3 c4 cc
   go_upto_region 10 with fail
   refine wp_letter (fun wx=>Blk wx wi.heap.size 47 [.int .u8 (d.letter:Int),.int .i64 d.mod,.bool d.nt,.slice FA fn fc,.slice TA tn tc]∧wx.ownsRow wo.heap.size 118 5 u5 es.length (cellsC es)∧Below wo.heap.size wo wx) ⟨Blk.made _ 47 _ _ _ rfl rfl,World.ownsRow.alloc HOI.out _,HBI.out.alloc HBI.out.size _⟩ ?_
   rintro wx ⟨z1,z2,z3⟩
   have Z1:=qh z1
   have Z2:=qh z2
   have Z3:=qh z3
   have hszx:=z3.size
   obtain ⟨k0,k1,k2,k3,k4⟩:=z1.c5
   generalize wi.heap.size=gi at *
   clear z1 z2 z3 q0 q1 q2 q3 q4 m0 m1
   go_wp2_with (at_builtin;refine wpList_append_lies _ (by rfl) (.tmp 33) (.tmp 45) 121 (by rfl) wo.heap.size 118 i7 (.agg #[.int .u8 0,.int .i64 0,.bool false,.slice none 0 0,.slice none 0 0]) 5 72 Tryz.underlying121 hi7 hz70 hz71 hz72 rfl (by decide) u5 es.length (cellsC es) (by rfl) (World.ownsRow.alloc Z2.out _) ⟨wx.heap.size,0,none⟩ 1 1 (five (d,.slice FA fn fc,.slice TA tn tc)) (by rfl) rfl (World.news_of_block (heap_alloc_new wx _)) (five_one _ ⟨⟨_,_,_,rfl⟩,⟨_,_,_,rfl⟩⟩) (by omega) (by omega) (by omega) (by simp;omega) (wx.heap.size+1) (by simp) ?_;intro g1 cap1 w7 hown7 hgrow7 hat7 hlt7;have HO7:=qh hown7;have HG7:=qh hgrow7;have HAT7:=qh hat7;clear hown7 hgrow7 hat7)
   go_roundw
   case rel =>
    refine ⟨es.length+1,es ++ [(d,.slice FA fn fc,.slice TA tn tc)],by omega,by go_num,by simp,?_,?_,?_,?_⟩
    ·rw [List.take_add_one,HD.out,List.map_append,HES.out];rfl
    ·rw [cellsC_snoc,List.length_append];exact HO7.out
    ·intro e he
     rcases List.mem_append.1 he with he|he
     ·exact HIN.out e he
     ·obtain rfl:=List.mem_singleton.1 he
      exact ⟨⟨_,_,_,rfl,HF.out⟩,⟨_,_,_,rfl,HTT.out⟩⟩
    ·exact below_grown (Z3.out.alloc Z3.out.size _) HG7.out (Nat.le_trans Z3.out.size (by simp)) (fun k hk=>(World.ownsRow.lt Z2.out k hk).1)
   case measure=>simp [intOf];omega
def v4:List Nat→Nat
 | []=>0
 | x :: l=>x+10000 * v4 l
def W4 (l:List Nat):Prop:=∀ x ∈ l,x<10000
def d4 (k:Nat):List Nat:=if k=0 then [] else k % 10000 :: d4 (k / 10000)
termination_by k
decreasing_by omega
theorem d4_zero:d4 0=[]:=by unfold d4;rfl
theorem d4_pos {k:Nat} (h:k≠0):d4 k=k % 10000 :: d4 (k / 10000):=by rw [d4,if_neg h]
theorem v4_d4 (k:Nat):v4 (d4 k)=k:=by
 induction k using Nat.strongRecOn with
 | _ k ih =>
  by_cases h:k=0
  ·subst h;rw [d4_zero];rfl
  ·rw [d4_pos h,v4,ih _ (by omega)];omega
theorem w4_d4 (k:Nat):W4 (d4 k):=by
 induction k using Nat.strongRecOn with
 | _ k ih =>
  by_cases h:k=0
  ·subst h;rw [d4_zero];intro x hx;cases hx
  ·rw [d4_pos h]
   intro x hx
   rcases List.mem_cons.1 hx with rfl|hx
   ·omega
   ·exact ih _ (by omega) x hx
theorem v4_app:∀ (a b:List Nat),v4 (a ++ b)=v4 a+10000 ^ a.length * v4 b
 | [],b=>by simp [v4]
 | x :: a,b=>by
  simp only [List.cons_append,v4,v4_app a b,List.length_cons,Nat.pow_succ]
  rw [Nat.mul_add,Nat.add_assoc,← Nat.mul_assoc,Nat.mul_comm 10000 (10000 ^ a.length)]
theorem v4_lt:∀ {l:List Nat},W4 l→v4 l<10000 ^ l.length
 | [],_=>by simp [v4]
 | x :: l,h=>by
  have h1:=h x (by simp)
  have h2:=v4_lt (l:=l) (fun y hy=>h y (by simp [hy]))
  simp only [v4,List.length_cons,Nat.pow_succ]
  omega
def trim4 (l:List Nat):List Nat:=if l=[] then [] else if l.getLast?=some 0 then trim4 l.dropLast else l
termination_by l.length
decreasing_by
 rw [List.length_dropLast]
 have:0<l.length:=List.length_pos_iff.2 ‹_›
 omega
def Canon4 (l:List Nat):Prop:=l.getLast?≠some 0
theorem trim_form (l:List Nat):Canon4 (trim4 l)∧(trim4 l).length≤l.length∧v4 (trim4 l)=v4 l∧(W4 l→W4 (trim4 l)):=by
 induction hn:l.length using Nat.strongRecOn generalizing l with
 | _ n ih =>
  subst hn
  unfold trim4
  split
  ·rename_i h;subst h;exact ⟨by simp [Canon4],by simp,rfl,fun h=>h⟩
  ·rename_i h
   split
   ·rename_i h0
    have hl:l=l.dropLast ++ [0]:=by
     have h1:=List.dropLast_concat_getLast h
     have h2:=List.getLast?_eq_some_getLast h
     rw [h2] at h0
     rw [Option.some.inj h0] at h1
     exact h1.symm
    have hlt:l.dropLast.length<l.length:=by rw [List.length_dropLast];have:=List.length_pos_iff.2 h;omega
    obtain ⟨h1,h2,h3,h4⟩:=ih _ hlt l.dropLast rfl
    refine ⟨h1,by omega,?_,fun hw=>h4 fun x hx=>hw x (List.dropLast_subset l hx)⟩
    rw [h3]
    conv=>rhs;rw [hl,v4_app]
    simp [v4]
   ·rename_i h0;exact ⟨h0,ql,rfl,fun h=>h⟩
theorem canon_d4 {l:List Nat} (hw:W4 l) (hc:Canon4 l):d4 (v4 l)=l:=by
 induction l with
 | nil=>exact d4_zero
 | cons x l ih =>
  have hx:=hw x (by simp)
  by_cases hl:l=[]
  ·subst hl
   have:x≠0:=fun e=>hc (by simp [e])
   simp only [v4,Nat.mul_zero,Nat.add_zero]
   rw [d4_pos this,show x / 10000=0 by omega,d4_zero,Nat.mod_eq_of_lt hx]
  ·have hc':Canon4 l:=fun e=>hc (by rw [List.getLast?_cons_of_ne_nil hl];exact e)
   have hpos:v4 l≠0:=fun e=>by
    have:=ih (fun y hy=>hw y (by simp [hy])) hc'
    rw [e,d4_zero] at this
    exact hl this.symm
   have h1:v4 (x :: l)≠0:=by simp only [v4];omega
   rw [d4_pos h1]
   simp only [v4]
   rw [show (x+10000 * v4 l) % 10000=x by omega,show (x+10000 * v4 l) / 10000=v4 l by omega,ih (fun y hy=>hw y (by simp [hy])) hc']
theorem trim_d4 {l:List Nat} (hw:W4 l):trim4 l=d4 (v4 l):=by
 obtain ⟨h1,-,h3,h4⟩:=trim_form l
 rw [← h3,canon_d4 (h4 hw) h1]
theorem canon_of_d4 (k:Nat):Canon4 (d4 k):=by
 have h:=trim_form (d4 k)
 have e:=trim_d4 (w4_d4 k)
 rw [v4_d4] at e
 rw [← e];exact h.1
theorem d4_len {k n:Nat} (h:k<10000 ^ n):(d4 k).length≤n:=by
 induction n generalizing k with
 | zero =>
  have:k=0:=by simp at h;omega
  subst this;rw [d4_zero];simp
 | succ n ih =>
  by_cases h0:k=0
  ·subst h0;rw [d4_zero];simp
  ·rw [d4_pos h0,List.length_cons]
   have:=ih (k:=k / 10000) (by rw [Nat.pow_succ] at h;omega)
   omega
end Go.Proofs.YtdgleeglndcjhaaGreatDoor
