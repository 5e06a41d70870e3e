import Derived.Test.YtdgleeglndcjhaaGreatDoorX10
import Derived.Test.YtdgleeglndcjhaaGreatDoorX08
import Derived.Test.YtdgleeglndcjhaaGreatDoorX36
import Derived.Test.YtdgleeglndcjhaaGreatDoorX37
import Derived.Test.YtdgleeglndcjhaaGreatDoorX40
import Derived.Test.YtdgleeglndcjhaaGreatDoorX24
import Derived.Test.YtdgleeglndcjhaaGreatDoorX25
set_option linter.unusedSimpArgs false
set_option linter.unusedVariables false
set_option maxHeartbeats 64000000
set_option maxRecDepth 100000
namespace Go.Proofs.YtdgleeglndcjhaaGreatDoor
open Go.RowKit
theorem neq_of {α:Type} {l m:List α} {k:Nat} {x y:α} (hx:l[k]?=some x) (hy:m[k]?=some y) (h:x≠y):l≠m:=fun e=>by rw [e,hy] at hx;cases hx;exact h rfl
theorem same_rule (w:World) (A B:Option Addr) (n c m d:Nat) (l l':Rl) (h:RuleIs w A n c l) (h':RuleIs w B m d l') (hs:SmallR l) (hs':SmallR l') :
  Calls Tryz.prog 22 #[.slice A n c,.slice B m d] w fun e w'=>e=.returned (.bool (decide (l=l')))∧Below w.heap.size w w':=by
 obtain rfl:n=l.length:=h.len;obtain rfl:m=l'.length:=h'.len;have HA:=qh h;have HB:=qh h';have HS:=qh hs;have HS':=qh hs';have hl:=hs.1;have hl':=hs'.1;have hlI:(l.length:Int)≤1000:=by omega
 have hlI':(l'.length:Int)≤1000:=by omega
 clear h h' hs hs';by_cases hn:l.length=l'.length
 case neg =>
  have hnI:((l.length:Int) != (l'.length:Int))=true:=by simp only [bne,Bool.not_eq_true',beq_eq_false_iff_ne];omega
  have hd:decide (l=l')=false:=decide_eq_false (fun e=>hn (congrArg List.length e));rw [hd];clear hd hn;go_enter Tryz.func22,Tryz.ntmps22;go_wp2_with fail;go_ret
  exact ⟨rfl,Below.refl _ _⟩
 have HN:=qh hn;have hnI:((l.length:Int) != (l'.length:Int))=false:=by rw [hn];simp
 clear hn;go_enter Tryz.func22,Tryz.ntmps22;go_wp2_with fail;go_loopw [5] (fun i wr=>EqW w l l' i wr) (fun i _=>l.length - (intOf i).toNat)
 case atStart=>exact ⟨0,Nat.zero_le _,rfl,rfl,Below.refl _ _⟩
 case round =>
  obtain ⟨k,hk,rfl,ht,hb⟩:=hrel;have HT:=qh ht;have HBR:=qh hb;clear ht hb;by_cases hlt:k<l.length
  case neg =>
   have hkI:¬ (k:Int)<(l.length:Int):=by omega
   have he:l=l':=by have:=HT.o;rw [List.take_of_length_le (by omega),List.take_of_length_le (by have:=HN.o;omega)] at this;exact this
   have HE:=qh he;clear he;go_wp2_with fail;go_ret
   exact ⟨by rw [decide_eq_true HE.o];rfl,HBR.o⟩
  obtain ⟨b,o,hA,hc⟩:=HA.o.at (by omega);obtain ⟨b',o',hB,hc'⟩:=HB.o.at (by have:=HN.o;omega);subst hA;subst hB;obtain ⟨x,hx⟩:∃ x,l[k]?=some x:=⟨l[k],List.getElem?_eq_getElem hlt⟩;obtain ⟨y,hy⟩:∃ y,l'[k]?=some y:=⟨l'[k]'(by have:=HN.o;omega),List.getElem?_eq_getElem _⟩;obtain ⟨XA,xn,xc,k0,hXs⟩:=hc k x hx;obtain ⟨YA,yn,yc,k1,hYs⟩:=hc' k y hy;obtain rfl:xn=x.length:=hXs.len;obtain rfl:yn=y.length:=hYs.len;have HX:=qh hx;have HY:=qh hy;have HXS:=qh hXs;have HYS:=qh hYs;have hxl:=(HS.o.rows x (List.mem_of_getElem? hx)).1;have hyl:=(HS'.o.rows y (List.mem_of_getElem? hy)).1;have HXC:=qh (HS.o.rows x (List.mem_of_getElem? hx)).2;have HYC:=qh (HS'.o.rows y (List.mem_of_getElem? hy)).2;have hxI:(x.length:Int)≤1000:=by omega
  have hyI:(y.length:Int)≤1000:=by omega
  have hkI:(k:Int)<(l.length:Int):=by omega
  have hkJ:(k:Int)<(l'.length:Int):=by have:=HN.o;omega
  have hk0:(0:Int)≤(k:Int):=by omega
  have HK:Hid (∀ w',Below w.heap.size w w'→w'.cell? ⟨b,o+k,none⟩=some (.slice XA x.length xc)∧w'.cell? ⟨b',o'+k,none⟩=some (.slice YA y.length yc)):=fun w' h=>⟨(h.cell (World.block_lt_of_cell? w _ k0)).trans k0,(h.cell (World.block_lt_of_cell? w _ k1)).trans k1⟩;clear hc hc' hx hy hXs hYs k0 k1;obtain ⟨k0,k1⟩:=HK.o wr HBR.o;by_cases hxy:x.length=y.length
  case neg =>
   have hqI:((x.length:Int) != (y.length:Int))=true:=by simp only [bne,Bool.not_eq_true',beq_eq_false_iff_ne];omega
   have HXY:=qh hxy;clear hxy;go_wp2_with fail;go_quiet (fail);go_step;go_wp2_with fail;go_ret
   exact ⟨by rw [decide_eq_false (neq_of HX.o HY.o fun e=>HXY.o (congrArg List.length e))];rfl,below_drewN HBR.o _⟩
  have hqI:((x.length:Int) != (y.length:Int))=false:=by rw [hxy];simp
  have HXY:=qh hxy;clear hxy;go_wp2_with fail;go_quiet (fail);go_step;go_wp2_with fail;obtain ⟨wo,rfl⟩:∃ wo:World,wo=wr:=⟨_,rfl⟩;go_loopw [6] (fun i w2=>EqW w x y i w2) (fun i _=>x.length - (intOf i).toNat)
  case atStart=>exact ⟨0,Nat.zero_le _,rfl,rfl,below_drewN HBR.o _⟩
  case round =>
   obtain ⟨j,hj,rfl,ht,hb⟩:=hrel;have HTJ:=qh ht;have HBJ:=qh hb;clear ht hb k0 k1 hqI;obtain ⟨w2,rfl⟩:∃ w2:World,w2=wr:=⟨_,rfl⟩;obtain ⟨k0,k1⟩:=HK.o w2 HBJ.o;by_cases hjl:j<x.length
   case neg =>
    have hjI:¬ (j:Int)<(x.length:Int):=by omega
    have he:x=y:=by have:=HTJ.o;rw [List.take_of_length_le (by omega),List.take_of_length_le (by have:=HXY.o;omega)] at this;exact this
    have HE:=qh he;clear he;go_wp2_with fail;go_roundw
    case rel=>exact ⟨k+1,by omega,by go_num,(take_eq HX.o HY.o).2 ⟨HT.o,HE.o⟩,HBJ.o⟩
    case measure=>simp [intOf];omega
   obtain ⟨xb,xo,hA,hc⟩:=HXS.o.at (by omega);obtain ⟨yb,yo,hB,hc'⟩:=HYS.o.at (by have:=HXY.o;omega);subst hA;subst hB;obtain ⟨p,hp⟩:∃ p,x[j]?=some p:=⟨x[j],List.getElem?_eq_getElem hjl⟩;obtain ⟨q,hq⟩:∃ q,y[j]?=some q:=⟨y[j]'(by have:=HXY.o;omega),List.getElem?_eq_getElem _⟩;obtain ⟨FA,fn,fc,TA,tn,tc,hF,hT,c0,c1,c2,c3,c4⟩:=hc j p hp;obtain ⟨FB,fm,fd,TB,tm,td,hF',hT',d0,d1,d2,d3,d4⟩:=hc' j q hq;obtain rfl:fn=p.fr.length:=hF.len;obtain rfl:tn=p.to.length:=hT.len;obtain rfl:fm=q.fr.length:=hF'.len;obtain rfl:tm=q.to.length:=hT'.len;have HP:=qh hp;have HQ:=qh hq;have HF:=qh hF;have HTT:=qh hT;have HF':=qh hF';have HT':=qh hT';have HPS:=qh (HXC.o p (List.mem_of_getElem? hp));have HQS:=qh (HYC.o q (List.mem_of_getElem? hq));have hjI:(j:Int)<(x.length:Int):=by omega
   have hjJ:(j:Int)<(y.length:Int):=by have:=HXY.o;omega
   have hj0:(0:Int)≤(j:Int):=by omega
   have HJ:Hid (∀ w',Below w.heap.size w w'→w'.cell? ⟨b,o+k,none⟩=some (.slice (some ⟨xb,xo,none⟩) x.length xc)∧w'.cell? ⟨b',o'+k,none⟩=some (.slice (some ⟨yb,yo,none⟩) y.length yc) ∧
     w'.cell? ⟨xb,xo+j * 5,none⟩=some (.int .u8 (p.letter:Int))∧w'.cell? ⟨xb,xo+j * 5+1,none⟩=some (.int .i64 p.mod)∧w'.cell? ⟨xb,xo+j * 5+2,none⟩=some (.bool p.nt)∧w'.cell? ⟨xb,xo+j * 5+3,none⟩=some (.slice FA p.fr.length fc)∧w'.cell? ⟨xb,xo+j * 5+4,none⟩=some (.slice TA p.to.length tc) ∧
     w'.cell? ⟨yb,yo+j * 5,none⟩=some (.int .u8 (q.letter:Int))∧w'.cell? ⟨yb,yo+j * 5+1,none⟩=some (.int .i64 q.mod)∧w'.cell? ⟨yb,yo+j * 5+2,none⟩=some (.bool q.nt)∧w'.cell? ⟨yb,yo+j * 5+3,none⟩=some (.slice FB q.fr.length fd)∧w'.cell? ⟨yb,yo+j * 5+4,none⟩=some (.slice TB q.to.length td)):=fun w' h =>
    have cc:∀ (a:Addr) u,a.spot=none→w.cell? a=some u→w'.cell? a=some u:=fun a u _ e=>(h.cell (World.block_lt_of_cell? w _ e)).trans e
    ⟨(HK.o w' h).1,(HK.o w' h).2,cc _ _ rfl c0,cc _ _ rfl c1,cc _ _ rfl c2,cc _ _ rfl c3,cc _ _ rfl c4,cc _ _ rfl d0,cc _ _ rfl d1,cc _ _ rfl d2,cc _ _ rfl d3,cc _ _ rfl d4⟩
   have hw2:=HBJ.o.size;clear hc hc' hp hq hF hT hF' hT' c0 c1 c2 c3 c4 d0 d1 d2 d3 d4 k0 k1;obtain ⟨k0,k1,-⟩:=HJ.o w2 HBJ.o;go_upto_region 11 with fail;clear k0 k1;go_cut [7,8] (fun s7 s8 wx=>∃ g1 g2,s7=.pointer (some ⟨g1,0,none⟩)∧s8=.pointer (some ⟨g2,0,none⟩)∧Blk wx g1 118 [.int .u8 (p.letter:Int),.int .i64 p.mod,.bool p.nt,.slice FA p.fr.length fc,.slice TA p.to.length tc]∧Blk wx g2 118 [.int .u8 (q.letter:Int),.int .i64 q.mod,.bool q.nt,.slice FB q.fr.length fd,.slice TB q.to.length td]∧Below w.heap.size w wx)
   case first =>
    have HJB:Hid (w.heap.size≤w2.heap.size):=HBJ.o.size;refine wp_region_but (fun w'=>Below w.heap.size w w') (by kernel_rfl) (by kernel_rfl) HBJ.o.drew (fun hHeld=>?_);simp only [initL,lastL];refine takeA (i:=0) ?_
    try simp only [Act.put,MT,M0,M1]
    refine takeA (i:=1) ?_
    try simp only [Act.put,MT,M0,M1]
    refine takeA (i:=2) ?_
    try simp only [Act.put,MT,M0,M1]
    refine takeA (i:=3) ?_
    try simp only [Act.put,MT,M0,M1]
    refine takeA (i:=4) ?_
    try simp only [Act.put,MT,M0,M1]
    refine takeA (i:=5) ?_
    try simp only [Act.put,MT,M0,M1]
    refine takeA (i:=6) ?_
    try simp only [Act.put,MT,M0,M1]
    refine takeA (i:=7) ?_
    try simp only [Act.put,MT,M0,M1]
    refine takeA (i:=8) ?_
    try simp only [Act.put,MT,M0,M1]
    refine takeA (i:=9) ?_
    try simp only [Act.put,MT,M0,M1]
    refine takeA (i:=10) ?_
    try simp only [Act.put,MT,M0,M1]
    refine takeA (i:=11) ?_
    try simp only [Act.put,MT,M0,M1]
    refine takeA (i:=12) ?_
    try simp only [Act.put,MT,M0,M1]
    refine takeA (i:=13) ?_
    try simp only [Act.put,MT,M0,M1]
    refine wpAnyH_ready (rs:=[14,15]) (by kernel_rfl) (by simp) ?_;refine consL rfl (fun K hK=>?_) ?_
    ·skip;go_simp
     try clear hHeld
     refine hK.out _ _ ((HBJ.o.drew.alloc (by have:=HJB.o;simp;try omega) _)) (fun hHeld=>?_);clear hK K
     try simp only [Act.put,MT,M0,M1]
     refine wpAnyH_ready (rs:=[15]) (by kernel_rfl) (by simp) ?_;refine consL rfl (fun K hK=>?_) AllReadyH.nil;go_simp
     try clear hHeld
     refine hK.out _ _ (((HBJ.o.drew.alloc (by have:=HJB.o;simp;try omega) _).alloc (by have:=HJB.o;simp;try omega) _)) (fun hHeld=>?_);clear hK K
     try simp only [Act.put,MT,M0,M1]
     clear hHeld;refine wpAnyH_letter (fun wx=>Blk wx w2.heap.size 118 [.int .u8 0,.int .i64 0,.bool false,.slice none 0 0,.slice none 0 0]∧Blk wx (w2.heap.size+1) 118 [.int .u8 0,.int .i64 0,.bool false,.slice none 0 0,.slice none 0 0]∧Below w.heap.size w wx) ⟨(Blk.made _ 118 _ _ _ (by simp) rfl).alloc _,Blk.made _ 118 _ _ _ (by simp) rfl,((HBJ.o.drew.alloc (by have:=HJB.o;simp;try omega) _).alloc (by have:=HJB.o;simp;try omega) _)⟩ ?_;rintro wx ⟨z1,z2,hHeld⟩;have Z1:=qh z1;have Z2:=qh z2;have Z3:=qh hHeld;obtain ⟨k0,k1,k2,k3,k4,f0,f1,f2,f3,f4⟩:=z1.cf5;clear z1 z2;refine wpAnyH_ready (rs:=[16]) (by kernel_rfl) (by simp) ?_;refine consL rfl (fun K hK=>?_) AllReadyH.nil;go_simp
     try clear hHeld
     refine hK.out _ _ ((((((Z3.o.setCell (by have:=HJB.o;simp;try omega) _).setCell (by have:=HJB.o;simp;try omega) _).setCell (by have:=HJB.o;simp;try omega) _).setCell (by have:=HJB.o;simp;try omega) _).setCell (by have:=HJB.o;simp;try omega) _)) (fun hHeld=>?_);clear hK K
     try simp only [Act.put,MT,M0,M1]
     clear hHeld k0 k1 k2 k3 k4 f0 f1 f2 f3 f4;refine wpAnyH_letter (fun wy=>Blk wy w2.heap.size 118 [.int .u8 (p.letter:Int),.int .i64 p.mod,.bool p.nt,.slice FA p.fr.length fc,.slice TA p.to.length tc]∧Blk wy (w2.heap.size+1) 118 [.int .u8 0,.int .i64 0,.bool false,.slice none 0 0,.slice none 0 0]∧Below w.heap.size w wy) ⟨(((((Z1.o.put 0 (.int .u8 (p.letter:Int))).put 1 (.int .i64 p.mod)).put 2 (.bool p.nt)).put 3 (.slice FA p.fr.length fc)).put 4 (.slice TA p.to.length tc)),(blk_far (blk_far (blk_far (blk_far (blk_far Z2.o ⟨w2.heap.size,0,none⟩ (.int .u8 (p.letter:Int)) (by simp)) ⟨w2.heap.size,1,none⟩ (.int .i64 p.mod) (by simp)) ⟨w2.heap.size,2,none⟩ (.bool p.nt) (by simp)) ⟨w2.heap.size,3,none⟩ (.slice FA p.fr.length fc) (by simp)) ⟨w2.heap.size,4,none⟩ (.slice TA p.to.length tc) (by simp)),(((((Z3.o.setCell (by have:=HJB.o;simp;try omega) _).setCell (by have:=HJB.o;simp;try omega) _).setCell (by have:=HJB.o;simp;try omega) _).setCell (by have:=HJB.o;simp;try omega) _).setCell (by have:=HJB.o;simp;try omega) _)⟩ ?_;rintro wy ⟨z1,z2,hHeld⟩;have Y1:=qh z1;have Y2:=qh z2;have Y3:=qh hHeld;obtain ⟨k0,k1,k2,k3,k4,f0,f1,f2,f3,f4⟩:=z2.cf5;clear z1 z2;refine wpAnyH_done (by kernel_rfl) ?_ _;clear hHeld;unfold TailQ;go_wp2_with fail;go_meet
     exact ⟨_,_,rfl,rfl,(blk_far (blk_far (blk_far (blk_far (blk_far Y1.o ⟨(w2.heap.size+1),0,none⟩ (.int .u8 (q.letter:Int)) (by simp)) ⟨(w2.heap.size+1),1,none⟩ (.int .i64 q.mod) (by simp)) ⟨(w2.heap.size+1),2,none⟩ (.bool q.nt) (by simp)) ⟨(w2.heap.size+1),3,none⟩ (.slice FB q.fr.length fd) (by simp)) ⟨(w2.heap.size+1),4,none⟩ (.slice TB q.to.length td) (by simp)),(((((Y2.o.put 0 (.int .u8 (q.letter:Int))).put 1 (.int .i64 q.mod)).put 2 (.bool q.nt)).put 3 (.slice FB q.fr.length fd)).put 4 (.slice TB q.to.length td)),(((((Y3.o.setCell (by have:=HJB.o;simp;try omega) _).setCell (by have:=HJB.o;simp;try omega) _).setCell (by have:=HJB.o;simp;try omega) _).setCell (by have:=HJB.o;simp;try omega) _).setCell (by have:=HJB.o;simp;try omega) _)⟩
    refine consL rfl (fun K hK=>?_) AllReadyH.nil;go_simp
    try clear hHeld
    refine hK.out _ _ ((HBJ.o.drew.alloc (by have:=HJB.o;simp;try omega) _)) (fun hHeld=>?_);clear hK K
    try simp only [Act.put,MT,M0,M1]
    refine wpAnyH_ready (rs:=[14]) (by kernel_rfl) (by simp) ?_;refine consL rfl (fun K hK=>?_) AllReadyH.nil;go_simp
    try clear hHeld
    refine hK.out _ _ (((HBJ.o.drew.alloc (by have:=HJB.o;simp;try omega) _).alloc (by have:=HJB.o;simp;try omega) _)) (fun hHeld=>?_);clear hK K
    try simp only [Act.put,MT,M0,M1]
    clear hHeld;refine wpAnyH_letter (fun wx=>Blk wx (w2.heap.size+1) 118 [.int .u8 0,.int .i64 0,.bool false,.slice none 0 0,.slice none 0 0]∧Blk wx w2.heap.size 118 [.int .u8 0,.int .i64 0,.bool false,.slice none 0 0,.slice none 0 0]∧Below w.heap.size w wx) ⟨Blk.made _ 118 _ _ _ (by simp) rfl,(Blk.made _ 118 _ _ _ (by simp) rfl).alloc _,((HBJ.o.drew.alloc (by have:=HJB.o;simp;try omega) _).alloc (by have:=HJB.o;simp;try omega) _)⟩ ?_;rintro wx ⟨z1,z2,hHeld⟩;have Z1:=qh z1;have Z2:=qh z2;have Z3:=qh hHeld;obtain ⟨k0,k1,k2,k3,k4,f0,f1,f2,f3,f4⟩:=z1.cf5;clear z1 z2;refine wpAnyH_ready (rs:=[16]) (by kernel_rfl) (by simp) ?_;refine consL rfl (fun K hK=>?_) AllReadyH.nil;go_simp
    try clear hHeld
    refine hK.out _ _ ((((((Z3.o.setCell (by have:=HJB.o;simp;try omega) _).setCell (by have:=HJB.o;simp;try omega) _).setCell (by have:=HJB.o;simp;try omega) _).setCell (by have:=HJB.o;simp;try omega) _).setCell (by have:=HJB.o;simp;try omega) _)) (fun hHeld=>?_);clear hK K
    try simp only [Act.put,MT,M0,M1]
    clear hHeld k0 k1 k2 k3 k4 f0 f1 f2 f3 f4;refine wpAnyH_letter (fun wy=>Blk wy (w2.heap.size+1) 118 [.int .u8 (p.letter:Int),.int .i64 p.mod,.bool p.nt,.slice FA p.fr.length fc,.slice TA p.to.length tc]∧Blk wy w2.heap.size 118 [.int .u8 0,.int .i64 0,.bool false,.slice none 0 0,.slice none 0 0]∧Below w.heap.size w wy) ⟨(((((Z1.o.put 0 (.int .u8 (p.letter:Int))).put 1 (.int .i64 p.mod)).put 2 (.bool p.nt)).put 3 (.slice FA p.fr.length fc)).put 4 (.slice TA p.to.length tc)),(blk_far (blk_far (blk_far (blk_far (blk_far Z2.o ⟨(w2.heap.size+1),0,none⟩ (.int .u8 (p.letter:Int)) (by simp)) ⟨(w2.heap.size+1),1,none⟩ (.int .i64 p.mod) (by simp)) ⟨(w2.heap.size+1),2,none⟩ (.bool p.nt) (by simp)) ⟨(w2.heap.size+1),3,none⟩ (.slice FA p.fr.length fc) (by simp)) ⟨(w2.heap.size+1),4,none⟩ (.slice TA p.to.length tc) (by simp)),(((((Z3.o.setCell (by have:=HJB.o;simp;try omega) _).setCell (by have:=HJB.o;simp;try omega) _).setCell (by have:=HJB.o;simp;try omega) _).setCell (by have:=HJB.o;simp;try omega) _).setCell (by have:=HJB.o;simp;try omega) _)⟩ ?_;rintro wy ⟨z1,z2,hHeld⟩;have Y1:=qh z1;have Y2:=qh z2;have Y3:=qh hHeld;obtain ⟨k0,k1,k2,k3,k4,f0,f1,f2,f3,f4⟩:=z2.cf5;clear z1 z2;refine wpAnyH_done (by kernel_rfl) ?_ _;clear hHeld;unfold TailQ;go_wp2_with fail;go_meet
    exact ⟨_,_,rfl,rfl,(blk_far (blk_far (blk_far (blk_far (blk_far Y1.o ⟨w2.heap.size,0,none⟩ (.int .u8 (q.letter:Int)) (by simp)) ⟨w2.heap.size,1,none⟩ (.int .i64 q.mod) (by simp)) ⟨w2.heap.size,2,none⟩ (.bool q.nt) (by simp)) ⟨w2.heap.size,3,none⟩ (.slice FB q.fr.length fd) (by simp)) ⟨w2.heap.size,4,none⟩ (.slice TB q.to.length td) (by simp)),(((((Y2.o.put 0 (.int .u8 (q.letter:Int))).put 1 (.int .i64 q.mod)).put 2 (.bool q.nt)).put 3 (.slice FB q.fr.length fd)).put 4 (.slice TB q.to.length td)),(((((Y3.o.setCell (by have:=HJB.o;simp;try omega) _).setCell (by have:=HJB.o;simp;try omega) _).setCell (by have:=HJB.o;simp;try omega) _).setCell (by have:=HJB.o;simp;try omega) _).setCell (by have:=HJB.o;simp;try omega) _)⟩
   case rest =>
    obtain ⟨g1,g2,rfl,rfl,z1,z2,hB⟩:=hcut;have Z1:=qh z1;have Z2:=qh z2;have ZB:=qh hB;have hz1:=z1.lt;have hz2:=z2.lt;obtain ⟨e0,e1,e2,e3,e4⟩:=z1.c5;obtain ⟨f0,f1,f2,f3,f4⟩:=z2.c5;clear z1 z2 hB;have HNE:Hid (p≠q→l≠l'):=fun h e=>neq_of HP.o HQ.o h (by have h1:=HX.o;have h2:=HY.o;rw [e,h2] at h1;cases h1;rfl);obtain ⟨wc2,rfl⟩:∃ wc2:World,wc2=wc:=⟨_,rfl⟩;by_cases h0:p.letter=q.letter
    case neg =>
     have hI:((p.letter:Int) != (q.letter:Int))=true:=by simp only [bne,Bool.not_eq_true',beq_eq_false_iff_ne];omega
     have HD:Hid (p≠q):=fun e=>h0 (by rw [e]);go_wp2_with fail;go_ret
     exact ⟨by rw [decide_eq_false (HNE.o HD.o)];rfl,ZB.o⟩
    have hI0:((p.letter:Int) != (q.letter:Int))=false:=by simp only [bne,Bool.not_eq_false',beq_iff_eq];omega
    by_cases h1:p.mod=q.mod
    case neg =>
     have hI:(p.mod != q.mod)=true:=by simp only [bne,Bool.not_eq_true',beq_eq_false_iff_ne];exact h1
     have HD:Hid (p≠q):=fun e=>h1 (by rw [e]);go_wp2_with fail;go_ret
     exact ⟨by rw [decide_eq_false (HNE.o HD.o)];rfl,ZB.o⟩
    have hI1:(p.mod != q.mod)=false:=by simp only [bne,Bool.not_eq_false',beq_iff_eq];exact h1
    by_cases h2:p.nt=q.nt
    case neg =>
     have hI:(p.nt != q.nt)=true:=by simp only [bne,Bool.not_eq_true',beq_eq_false_iff_ne];exact h2
     have HD:Hid (p≠q):=fun e=>h2 (by rw [e]);go_wp2_with fail;go_ret
     exact ⟨by rw [decide_eq_false (HNE.o HD.o)];rfl,ZB.o⟩
    have hI2:(p.nt != q.nt)=false:=by simp only [bne,Bool.not_eq_false',beq_iff_eq];exact h2
    by_cases h3:p.fr.length=q.fr.length
    case neg =>
     have hI:((p.fr.length:Int) != (q.fr.length:Int))=true:=by simp only [bne,Bool.not_eq_true',beq_eq_false_iff_ne];omega
     have HD:Hid (p≠q):=fun e=>h3 (by rw [e]);go_wp2_with fail;go_ret
     exact ⟨by rw [decide_eq_false (HNE.o HD.o)];rfl,ZB.o⟩
    have hI3:((p.fr.length:Int) != (q.fr.length:Int))=false:=by simp only [bne,Bool.not_eq_false',beq_iff_eq];omega
    by_cases h4:p.to.length=q.to.length
    case neg =>
     have hI:((p.to.length:Int) != (q.to.length:Int))=true:=by simp only [bne,Bool.not_eq_true',beq_eq_false_iff_ne];omega
     have HD:Hid (p≠q):=fun e=>h4 (by rw [e]);go_wp2_with fail;go_ret
     exact ⟨by rw [decide_eq_false (HNE.o HD.o)];rfl,ZB.o⟩
    have hI4:((p.to.length:Int) != (q.to.length:Int))=false:=by simp only [bne,Bool.not_eq_false',beq_iff_eq];omega
    have HE0:=qh h0;have HE1:=qh h1;have HE2:=qh h2;have HE3:=qh h3;have HE4:=qh h4;clear h0 h1 h2 h3 h4;go_wp2_with fail;go_loopw [9] (fun i w3=>EqW wc2 p.fr q.fr i w3) (fun i _=>p.fr.length - (intOf i).toNat)
    case atStart=>exact ⟨0,Nat.zero_le _,rfl,rfl,Below.refl _ _⟩
    case round =>
     obtain ⟨rfr,hr,rfl,ht,hb⟩:=hrel;obtain ⟨wfr,rfl⟩:∃ wfr:World,wfr=wr:=⟨_,rfl⟩;have HTfr:=qh ht;have HBfr:=qh hb;have hg1:wfr.cell? ⟨g1,3,none⟩=some (.slice FA p.fr.length fc):=(Z1.o.below hb Z1.o.lt).cell 3;have hg2:wfr.cell? ⟨g2,3,none⟩=some (.slice FB q.fr.length fd):=(Z2.o.below hb Z2.o.lt).cell 3;have hpl:p.fr.length≤1000:=HPS.o.nf;have hplI:(p.fr.length:Int)≤1000:=by omega
     clear ht hb;by_cases hrl:rfr<p.fr.length
     case neg =>
      have hrI:¬ (rfr:Int)<(p.fr.length:Int):=by omega
      have he:p.fr=q.fr:=by have:=HTfr.o;rw [List.take_of_length_le (by omega),List.take_of_length_le (by have:=HE3.o;omega)] at this;exact this
      have HEQfr:=qh he;clear he;go_wp2_with fail;go_loopw [10] (fun i w3=>EqW wfr p.to q.to i w3) (fun i _=>p.to.length - (intOf i).toNat)
      case atStart=>exact ⟨0,Nat.zero_le _,rfl,rfl,Below.refl _ _⟩
      case round =>
       obtain ⟨rto,hr,rfl,ht,hb⟩:=hrel;obtain ⟨wto,rfl⟩:∃ wto:World,wto=wr:=⟨_,rfl⟩;have HTto:=qh ht;have HBto:=qh hb;have hg1:wto.cell? ⟨g1,4,none⟩=some (.slice TA p.to.length tc):=(Z1.o.below (HBfr.o.trans (hb.mono HBfr.o.size)) Z1.o.lt).cell 4;have hg2:wto.cell? ⟨g2,4,none⟩=some (.slice TB q.to.length td):=(Z2.o.below (HBfr.o.trans (hb.mono HBfr.o.size)) Z2.o.lt).cell 4;have hpl:p.to.length≤1000:=HPS.o.nt;have hplI:(p.to.length:Int)≤1000:=by omega
       clear ht hb;by_cases hrl:rto<p.to.length
       case neg =>
        have hrI:¬ (rto:Int)<(p.to.length:Int):=by omega
        have he:p.to=q.to:=by have:=HTto.o;rw [List.take_of_length_le (by omega),List.take_of_length_le (by have:=HE4.o;omega)] at this;exact this
        have HEQto:=qh he;clear he;go_wp2_with fail;have HPQ:Hid (p=q):=cnd_eq.2 ⟨HE0.o,HE1.o,HE2.o,HEQfr.o,HEQto.o⟩;go_roundw
        case rel=>exact ⟨j+1,by omega,by go_num,(take_eq HP.o HQ.o).2 ⟨HTJ.o,HPQ.o⟩,ZB.o.trans ((HBfr.o.trans (HBto.o.mono HBfr.o.size)).mono ZB.o.size)⟩
        case measure=>simp [intOf];omega
       obtain ⟨ab,ao,hAA,ha⟩:=(HTT.o.below (ZB.o.trans ((HBfr.o.trans (HBto.o.mono HBfr.o.size)).mono ZB.o.size)) ql).at (by omega);obtain ⟨bb,bo,hBB,hb⟩:=(HT'.o.below (ZB.o.trans ((HBfr.o.trans (HBto.o.mono HBfr.o.size)).mono ZB.o.size)) ql).at (by have:=HE4.o;omega);subst hAA;subst hBB;obtain ⟨a,haa⟩:∃ a,p.to[rto]?=some a:=⟨p.to[rto],List.getElem?_eq_getElem hrl⟩;obtain ⟨b9,hbb⟩:∃ b9,q.to[rto]?=some b9:=⟨q.to[rto]'(by have:=HE4.o;omega),List.getElem?_eq_getElem _⟩;have m0:=ha rto a haa;have m1:=hb rto b9 hbb;have HAA:=qh haa;have HBB:=qh hbb;have hrI:(rto:Int)<(p.to.length:Int):=by omega
       have hrJ:(rto:Int)<(q.to.length:Int):=by have:=HE4.o;omega
       have hr0:(0:Int)≤(rto:Int):=by omega
       clear ha hb haa hbb;by_cases hab:a=b9
       ·have habI:(a != b9)=false:=by simp only [bne,Bool.not_eq_false',beq_iff_eq];exact hab
        have HAB:=qh hab;clear hab;go_wp2_with fail;go_quiet (fail);go_step;go_wp2_with fail;go_roundw
        case rel=>exact ⟨rto+1,by omega,by go_num,(take_eq HAA.o HBB.o).2 ⟨HTto.o,HAB.o⟩,below_drewN HBto.o _⟩
        case measure=>simp [intOf];omega
       ·have habI:(a != b9)=true:=by simp only [bne,Bool.not_eq_true',beq_eq_false_iff_ne];exact hab
        have HD:Hid (p≠q):=fun e=>neq_of HAA.o HBB.o hab (by rw [e]);clear hab;go_wp2_with fail;go_quiet (fail);go_step;go_wp2_with fail;go_ret
        exact ⟨by rw [decide_eq_false (HNE.o HD.o)];rfl,below_drewN (ZB.o.trans ((HBfr.o.trans (HBto.o.mono HBfr.o.size)).mono ZB.o.size)) _⟩
     obtain ⟨ab,ao,hAA,ha⟩:=(HF.o.below (ZB.o.trans (HBfr.o.mono ZB.o.size)) ql).at (by omega);obtain ⟨bb,bo,hBB,hb⟩:=(HF'.o.below (ZB.o.trans (HBfr.o.mono ZB.o.size)) ql).at (by have:=HE3.o;omega);subst hAA;subst hBB;obtain ⟨a,haa⟩:∃ a,p.fr[rfr]?=some a:=⟨p.fr[rfr],List.getElem?_eq_getElem hrl⟩;obtain ⟨b9,hbb⟩:∃ b9,q.fr[rfr]?=some b9:=⟨q.fr[rfr]'(by have:=HE3.o;omega),List.getElem?_eq_getElem _⟩;have m0:=ha rfr a haa;have m1:=hb rfr b9 hbb;have HAA:=qh haa;have HBB:=qh hbb;have hrI:(rfr:Int)<(p.fr.length:Int):=by omega
     have hrJ:(rfr:Int)<(q.fr.length:Int):=by have:=HE3.o;omega
     have hr0:(0:Int)≤(rfr:Int):=by omega
     clear ha hb haa hbb;by_cases hab:a=b9
     ·have habI:(a != b9)=false:=by simp only [bne,Bool.not_eq_false',beq_iff_eq];exact hab
      have HAB:=qh hab;clear hab;go_wp2_with fail;go_quiet (fail);go_step;go_wp2_with fail;go_roundw
      case rel=>exact ⟨rfr+1,by omega,by go_num,(take_eq HAA.o HBB.o).2 ⟨HTfr.o,HAB.o⟩,below_drewN HBfr.o _⟩
      case measure=>simp [intOf];omega
     ·have habI:(a != b9)=true:=by simp only [bne,Bool.not_eq_true',beq_eq_false_iff_ne];exact hab
      have HD:Hid (p≠q):=fun e=>neq_of HAA.o HBB.o hab (by rw [e]);clear hab;go_wp2_with fail;go_quiet (fail);go_step;go_wp2_with fail;go_ret
      exact ⟨by rw [decide_eq_false (HNE.o HD.o)];rfl,below_drewN (ZB.o.trans (HBfr.o.mono ZB.o.size)) _⟩
theorem ref_GoodRule (w:World) (A:Option Addr) (n c:Nat) (r:Rl) (h:RuleIs w A n c r) (hs:SmallR r) :
  Calls Tryz.prog 24 #[.slice A n c] w fun e w'=>e=.returned (.bool (goodR r))∧Below w.heap.size w w':=by
 have HX:=qh h;have HS:=qh hs;have HL:=qh (writeR_len hs);obtain ⟨g,hg⟩:∃ g,goodR r=g:=⟨_,rfl⟩;have hg2:g=decide (parseR (writeR r)=(0,r)):=by rw [← hg];rfl
 rw [hg];obtain ⟨t,ht⟩:∃ t,writeR r=t:=⟨_,rfl⟩;rw [ht] at hg2 HL;have HT:=qh ht;have HG:=qh hg2;clear h hs hg hg2 ht;rcases parseR_cases t with ⟨x,h1,h2⟩|⟨e1,h1,h2⟩
 ·have H1:=qh h1;have H2:=qh h2;clear h1 h2;go_enter Tryz.func24,Tryz.ntmps24;go_wp2_with fail;refine (ref_show w A n c r HX.o HS.o).mono ?_;rw [HT.o];rintro e w1 ⟨rfl,hb1⟩;have HB1:=qh hb1;clear hb1;dsimp only;go_wp2_with fail;refine (ref_ParseRule w1 t HL.o).mono ?_;rw [H1.o];rintro e w2 ⟨⟨A2,n2,c2,rfl,hr2⟩,hb2⟩;have HR2:=qh hr2;have HB2:=qt HB1 hb2;clear hr2 hb2;dsimp only;go_wp2_with fail;refine (same_rule w2 A2 A n2 c2 n c x r HR2.o (HX.o.below HB2.o ql) H2.o HS.o).mono ?_;rintro e w3 ⟨rfl,hb3⟩;have HB3:=qt HB2 hb3
  have hfin:g=decide (x=r):=by
   rw [HG.o,H1.o,decide_eq_decide];constructor
   ·intro h;exact (Prod.mk.inj h).2
   ·rintro rfl;rfl
  have HF:=qh hfin;clear hb3 hfin;dsimp only;go_wp2_with fail;go_ret
  exact ⟨by rw [HF.o];rfl,HB3.o⟩
 ·have H1:=qh h1;have hne:((e1:Int) == 0)=false:=by rcases h2 with rfl|rfl <;> rfl
  have hfin:g=false:=by
   rw [HG.o,h1];refine decide_eq_false ?_;intro h;have:=(Prod.mk.inj h).1;rcases h2 with rfl|rfl <;> cases this
  have HF:=qh hfin;clear h1 h2 hfin;go_enter Tryz.func24,Tryz.ntmps24;go_wp2_with fail;refine (ref_show w A n c r HX.o HS.o).mono ?_;rw [HT.o];rintro e w1 ⟨rfl,hb1⟩;have HB1:=qh hb1;clear hb1;dsimp only;go_wp2_with fail;refine (ref_ParseRule w1 t HL.o).mono ?_;rw [H1.o];rintro e w2 ⟨⟨A2,n2,c2,rfl,hr2⟩,hb2⟩;have HB2:=qt HB1 hb2;clear hr2 hb2;dsimp only;go_wp2_with fail;go_ret
  exact ⟨by rw [HF.o];rfl,HB2.o⟩
theorem any_take {f:List Cnd→Bool} {r:Rl} {i:Nat} {l:List Cnd} (h:r[i]?=some l):(r.take (i+1)).any f=((r.take i).any f || f l):=by
 rw [List.take_add_one,h];simp
theorem all_take {f:Cnd→Bool} {r:List Cnd} {i:Nat} {l:Cnd} (h:r[i]?=some l):(r.take (i+1)).all f=((r.take i).all f && f l):=by
 rw [List.take_add_one,h];simp
theorem any_of {f:List Cnd→Bool} {r:Rl} {i:Nat} {l:List Cnd} (h:r[i]?=some l) (hf:f l=true):r.any f=true:=List.any_eq_true.2 ⟨l,List.mem_of_getElem? h,hf⟩
theorem ref_Holds (w:World) (A:Option Addr) (n c:Nat) (r:Rl) (h:RuleIs w A n c r) (hs:SmallR r) (b:Bool) (DA:Option Addr) (dn dc k S:Nat) (hd:D4 w DA dn dc k) (hl:(d4 k).length≤5000) (hS:S≤1000) :
  Calls Tryz.prog 26 #[.slice A n c,.agg #[.bool b,.slice DA dn dc,.int .i64 (S:Int)]] w fun e w'=>e=.returned (.bool (holdsV (ofVal k S) r))∧Below w.heap.size w w':=by
 obtain rfl:n=r.length:=h.len;have HX:=qh h;have HS:=qh hs;have HD:=qh hd;have L1:=qh hl;have hlr:=hs.len;have hlI:(r.length:Int)≤1000:=by omega
 obtain ⟨Y,hY⟩:∃ Y,holdsV (ofVal k S) r=Y:=⟨_,rfl⟩;rw [hY];have HY:Hid (Y=(goodR r && r.any fun l=>l.all (condV (ofVal k S)))):=hY.symm;obtain ⟨f,hf⟩:∃ f,condV (ofVal k S)=f:=⟨_,rfl⟩;rw [hf] at HY;have HFV:=qh hf;clear h hs hd hl hY hf;go_enter Tryz.func26,Tryz.ntmps26;go_upto_region 1 with fail;refine wp_letter (fun w1=>Blk w1 w.heap.size 68 [.bool b,.slice DA dn dc,.int .i64 (S:Int)]∧Below w.heap.size w w1) ⟨Blk.made _ 68 _ _ _ rfl rfl,(Below.refl _ _).alloc ql _⟩ ?_;rintro w1 ⟨b0,hb⟩;have K0:=qh b0;have HB:=qh hb;clear b0 hb;go_wp2_with fail;refine (ref_GoodRule w1 A r.length c r (HX.o.below HB.o ql) HS.o).mono ?_;rcases Bool.eq_false_or_eq_true (goodR r) with hg|hg
 case inr =>
  rw [hg] at HY ⊢;rintro e w2 ⟨rfl,hb2⟩;have HB2:=qt HB hb2;clear hb2;dsimp only;go_wp2_with fail;go_ret
  exact ⟨by rw [HY.o];rfl,HB2.o⟩
 have HV:=qh (goodR_valid hg);rw [hg] at HY ⊢;rintro e w2 ⟨rfl,hb2⟩;have HB12:=qh hb2;clear hb2 hg;dsimp only;go_wp2_with fail;go_loopw [5] (fun i wr=>∃ kk:Nat,kk≤r.length∧i=.int .i64 (kk:Int)∧((r.take kk).any fun l=>l.all f)=false∧Below w1.heap.size w1 wr) (fun i _=>r.length - (intOf i).toNat)
 case atStart=>exact ⟨0,Nat.zero_le _,rfl,rfl,HB12.o⟩
 case round =>
  obtain ⟨kk,hkk,rfl,hno,hbr⟩:=hrel;obtain ⟨wo,rfl⟩:∃ wo:World,wo=wr:=⟨_,rfl⟩;have HNO:=qh hno;have HBR:=qh hbr;clear hno hbr;by_cases hlt:kk<r.length
  case neg =>
   have hkI:¬ (kk:Int)<(r.length:Int):=by omega
   have hfin:Y=false:=by
    have h1:=HNO.o;rw [List.take_of_length_le (by omega)] at h1;rw [HY.o,h1];rfl
   have HF:=qh hfin;clear hfin;go_wp2_with fail;go_ret
   exact ⟨by rw [HF.o];rfl,HB.o.trans (HBR.o.mono HB.o.size)⟩
  obtain ⟨rb,ro,rfl,hc⟩:=HX.o.at (by omega);obtain ⟨l,hlx⟩:∃ l,r[kk]?=some l:=⟨r[kk],List.getElem?_eq_getElem hlt⟩;obtain ⟨LA,ln,lc,m0,hL⟩:=hc kk l hlx;obtain rfl:ln=l.length:=hL.len;have HL:=qh hL;have HLX:=qh hlx;have hsl:=HS.o.rows l (List.mem_of_getElem? hlx);have hll:=hsl.1;have HSL:=qh hsl;have HVL:=qh (HV.o.rows l (List.mem_of_getElem? hlx)).2;have hllI:(l.length:Int)≤1000:=by omega
  have HM0:Hid (∀ w',Below w1.heap.size w1 w'→w'.cell? ⟨rb,ro+kk,none⟩=some (.slice LA l.length lc)):=fun w' h=>((HB.o.trans (h.mono HB.o.size)).cell (World.block_lt_of_cell? w _ m0)).trans m0;have hkI:(kk:Int)<(r.length:Int):=by omega
  have hk0:(0:Int)≤(kk:Int):=by omega
  clear hc hlx m0 hL hsl;go_wp2_with fail;go_loopw [6,7] (fun a j wr=>∃ q:Nat,q≤l.length∧j=.int .i64 (q:Int)∧a=.bool ((l.take q).all f)∧Below w1.heap.size w1 wr) (fun _ i _=>l.length - (intOf i).toNat)
  case atStart=>exact ⟨0,Nat.zero_le _,rfl,rfl,HBR.o⟩
  case round =>
   obtain ⟨q,hq,rfl,rfl,hb2⟩:=hrel;obtain ⟨wi,rfl⟩:∃ wi:World,wi=wr:=⟨_,rfl⟩;have HBI:=qh hb2;have m1:=HM0.o wi hb2;clear hb2;by_cases hql:q<l.length
   case neg =>
    have hqI:¬ (q:Int)<(l.length:Int):=by omega
    have hqe:l.take q=l:=List.take_of_length_le (by omega);rw [hqe];clear hqe;rcases Bool.eq_false_or_eq_true (l.all f) with ha|ha
    ·have hfin:Y=true:=by rw [HY.o,any_of HLX.o ha];rfl
     have HF:=qh hfin;rw [ha];clear hfin ha;go_wp2_with fail;go_ret
     exact ⟨by rw [HF.o];rfl,HB.o.trans (HBI.o.mono HB.o.size)⟩
    ·have hnx:((r.take (kk+1)).any fun l=>l.all f)=false:=by rw [any_take HLX.o,HNO.o,ha];rfl
     have HNX:=qh hnx;rw [ha];clear hnx ha;go_wp2_with fail;go_roundw
     case rel=>exact ⟨kk+1,by omega,by go_num,HNX.o,HBI.o⟩
     case measure=>simp [intOf];omega
   have hqI:(q:Int)<(l.length:Int):=by omega
   have hq0:(0:Int)≤(q:Int):=by omega
   obtain ⟨xb,xo,rfl,hc2⟩:=HL.o.at (by omega);obtain ⟨d,hd⟩:∃ d,l[q]?=some d:=⟨l[q],List.getElem?_eq_getElem hql⟩;have HAT:=qh (all_take (f:=f) hd);rcases Bool.eq_false_or_eq_true ((l.take q).all f) with ha|ha
   case inr =>
    rw [ha] at HAT ⊢;clear hc2 hd ha;go_wp2_with fail;go_upto_region 10 with fail;go_quiet (fail);go_step;go_wp2_with fail;go_roundw
    case rel=>exact ⟨q+1,by omega,by go_num,by rw [HAT.o];rfl,below_drewN HBI.o _⟩
    case measure=>simp [intOf];omega
   rw [ha] at HAT ⊢;obtain ⟨FA,fn,fc,TA,tn,tc,hF,hTT,c0,c1,c2,c3,c4⟩:=hc2 q d hd;have hdv:=HVL.o d (List.mem_of_getElem? hd);have hds:=HSL.o.2 d (List.mem_of_getElem? hd);have HDV:=qh hdv;have HDS:=qh hds;have HF:=qh hF;have HTO:=qh hTT;have HBWI:=qh (HB.o.trans (HBI.o.mono HB.o.size))
   have HKK:Hid (∀ w',Below wi.heap.size wi w'→w'.cell? ⟨rb,ro+kk,none⟩=some (.slice (some ⟨xb,xo,none⟩) l.length lc)∧w'.cell? ⟨xb,xo+q * 5,none⟩=some (.int .u8 (d.letter:Int))∧w'.cell? ⟨xb,xo+q * 5+1,none⟩=some (.int .i64 d.mod)∧w'.cell? ⟨xb,xo+q * 5+2,none⟩=some (.bool d.nt)∧w'.cell? ⟨xb,xo+q * 5+3,none⟩=some (.slice FA fn fc)∧w'.cell? ⟨xb,xo+q * 5+4,none⟩=some (.slice TA tn tc)∧w'.cell? ⟨w.heap.size,0,none⟩=some (.bool b)∧w'.cell? ⟨w.heap.size,1,none⟩=some (.slice DA dn dc)∧w'.cell? ⟨w.heap.size,2,none⟩=some (.int .i64 (S:Int))∧Below wi.heap.size wi w'):=fun w' h=>by
    have hw:=HBWI.o.trans (h.mono HBWI.o.size);have hw1:=HBI.o.trans (h.mono HBI.o.size);have e0:=K0.o.below hw1 K0.o.lt;have cc:∀ (a:Addr) u,w.cell? a=some u→w'.cell? a=some u:=fun a u e=>(hw.cell (World.block_lt_of_cell? w _ e)).trans e;exact ⟨HM0.o w' hw1,cc _ _ c0,cc _ _ c1,cc _ _ c2,cc _ _ c3,cc _ _ c4,e0.cell 0,e0.cell 1,e0.cell 2,h⟩
   clear hc2 hd ha hF hTT c0 c1 c2 c3 c4 hdv hds;go_wp2_with fail;go_upto_region 10 with fail
   go_region_held3 (fun w'=>w'.cell? ⟨rb,ro+kk,none⟩=some (.slice (some ⟨xb,xo,none⟩) l.length lc)∧w'.cell? ⟨xb,xo+q * 5,none⟩=some (.int .u8 (d.letter:Int))∧w'.cell? ⟨xb,xo+q * 5+1,none⟩=some (.int .i64 d.mod)∧w'.cell? ⟨xb,xo+q * 5+2,none⟩=some (.bool d.nt)∧w'.cell? ⟨xb,xo+q * 5+3,none⟩=some (.slice FA fn fc)∧w'.cell? ⟨xb,xo+q * 5+4,none⟩=some (.slice TA tn tc)∧w'.cell? ⟨w.heap.size,0,none⟩=some (.bool b)∧w'.cell? ⟨w.heap.size,1,none⟩=some (.slice DA dn dc)∧w'.cell? ⟨w.heap.size,2,none⟩=some (.int .i64 (S:Int))∧Below wi.heap.size wi w')
    (first|exact HKK.o _ (Below.refl _ _).drew|(go_split_ands;exact HKK.o _ (Below.trans ‹Below wi.heap.size wi _› (hb5.mono (Below.size ‹Below wi.heap.size wi _›))))|fail)
    (first|((with_reducible refine (ref_holds _ d FA TA DA fn fc tn tc dn dc k S b (HF.o.below ?_ ql) (HTO.o.below ?_ ql) HDV.o HDS.o (HD.o.below ?_ ql) L1.o hS).mono ?_);(go_split_ands;exact HBWI.o.trans (Below.mono ‹Below wi.heap.size wi _› HBWI.o.size));(go_split_ands;exact HBWI.o.trans (Below.mono ‹Below wi.heap.size wi _› HBWI.o.size));(go_split_ands;exact HBWI.o.trans (Below.mono ‹Below wi.heap.size wi _› HBWI.o.size));rw [HFV.o];rintro e w5 ⟨rfl,hb5⟩)|fail)
   have hbf:Below wi.heap.size wi w5:=(by go_split_ands;assumption);have HBF:=qt HBI hbf;go_wp2_with fail;go_roundw
   case rel=>exact ⟨q+1,by omega,by go_num,by rw [HAT.o];rfl,HBF.o⟩
   case measure=>simp [intOf];omega
theorem D4.putD {w:World} {A:Option Addr} {n c k g:Nat} (h:D4 w A n c k) (hf:Far A n c k g) (u v x:Value):D4 (((w.setCell ⟨g,0,none⟩ u).setCell ⟨g,1,none⟩ v).setCell ⟨g,2,none⟩ x) A n c k:=((h.setFar hf 0 u).setFar hf 1 v).setFar hf 2 x
theorem D4.zcell {w:World} {A:Option Addr} {n c k g:Nat} {t:TypeId} {b:Bool} {A':Option Addr} {n' c':Nat} (h:D4 w A n c k) (hB:Blk w g t [.bool b,.slice A' n' c',.int .i64 0]):Far A n c k g:=by
 intro hk j hj e;subst e;have h0:0<(d4 k).length:=by rw [d4_pos hk];simp
 obtain ⟨b1,o,rfl,hc⟩:=h.1.at h0;have hjb:b1=j:=by simpa [Value.ownBlock] using hj
 subst hjb;have hl:(d4 k)[(d4 k).length - 1]?=some ((d4 k)[(d4 k).length - 1]):=List.getElem?_eq_getElem (by omega);have hx:=hc _ _ hl;rw [hB.cell] at hx;have hcn:=canon_of_d4 k;unfold Canon4 at hcn;rw [List.getLast?_eq_getElem?,hl] at hcn;generalize o+((d4 k).length - 1)=p at hx
 match p,hx with
 | 0,hx=>simp at hx
 | 1,hx=>simp at hx
 | 2,hx =>
  simp at hx;have h9:(d4 k)[(d4 k).length - 1]=0:=by omega
  exact hcn (by rw [h9])
 | p+3,hx=>simp at hx
end Go.Proofs.YtdgleeglndcjhaaGreatDoor
