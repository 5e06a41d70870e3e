import Derived.Test.YtdgleeglndcjhaaGreatDoorX32
import Derived.Test.YtdgleeglndcjhaaGreatDoorX10
import Derived.Test.YtdgleeglndcjhaaGreatDoorX36
import Derived.Test.YtdgleeglndcjhaaGreatDoorX34
set_option linter.unusedSimpArgs false
set_option linter.unusedVariables false
set_option maxHeartbeats 32000000
set_option maxRecDepth 100000
namespace Go.Proofs.YtdgleeglndcjhaaGreatDoor
open Go.RowKit
theorem join_snoc (sep x:Bs):∀ a:List Bs,a≠[]→Lib.join (a ++ [x]) sep=Lib.join a sep ++ sep ++ x
 | [],h=>absurd rfl h
 | [y],_=>by simp [Lib.join,List.intercalate]
 | y :: z :: t,_=>by
  have ih:=join_snoc sep x (z :: t) (by simp);have e1:Lib.join (y :: z :: t ++ [x]) sep=y ++ sep ++ Lib.join (z :: t ++ [x]) sep:=by simp [Lib.join,List.intercalate]
  have e2:Lib.join (y :: z :: t) sep=y ++ sep ++ Lib.join (z :: t) sep:=by simp [Lib.join,List.intercalate]
  rw [e1,e2,ih];simp
theorem join_take {ws:List Bs} {k:Nat} {x:Bs} (sep:Bs) (h:ws[k]?=some x):Lib.join (ws.take (k+1)) sep=(Lib.join (ws.take k) sep ++ (if 0<k then sep else [])) ++ x:=by
 rw [List.take_add_one,h];cases k with
 | zero=>simp [Lib.join_one,Lib.join,List.intercalate]
 | succ k =>
  have hlt:=(List.getElem?_eq_some_iff.1 h).1;rw [Option.toList_some,join_snoc sep x _ (by intro e;have h2:=congrArg List.length e;rw [List.length_take,List.length_nil] at h2;omega),if_pos (by omega)]
theorem lens_take (ws:List Bs) (k:Nat):Lib.lens (ws.take k)≤Lib.lens ws:=by
 induction ws generalizing k with
 | nil=>simp
 | cons x t ih =>
  cases k with
  | zero=>simp [Lib.lens]
  | succ k=>have:=ih k;simp only [List.take_succ_cons,Lib.lens,List.map_cons,List.sum_cons] at this ⊢;omega
theorem join_take_le (ws:List Bs) (sep:Bs) (k:Nat):(Lib.join (ws.take k) sep).length≤(Lib.join ws sep).length:=by
 cases ws with
 | nil=>simp
 | cons x r =>
  cases k with
  | zero=>simp [Lib.join,List.intercalate]
  | succ k =>
   rw [List.take_succ_cons,Lib.join_length,Lib.join_length];have h1:=lens_take (x :: r) (k+1);have h3:sep.length * (r.take k).length≤sep.length * r.length:=Nat.mul_le_mul_left _ (by simp;omega);rw [List.take_succ_cons] at h1;omega
def headC (c:Cnd):Bs:=[UInt8.ofNat c.letter] ++ (if c.mod=0 then [] else [32,37,32] ++ Lib.itoa c.mod) ++ (if c.nt then [32,33,61,32] else [32,61,32])
theorem writeC_head (c:Cnd):writeC c=headC c ++ Lib.join (items c.fr c.to) [44]:=by
 unfold writeC headC;cases c.nt <;> simp
theorem ref_show (w:World) (A:Option Addr) (n c:Nat) (r:Rl) (h:RuleIs w A n c r) (hs:SmallR r) :
  Calls Tryz.prog 67 #[.slice A n c] w fun e w'=>e=.returned (.string ⟨(writeR r).toArray⟩)∧Below w.heap.size w w':=by
 obtain rfl:n=r.length:=h.len;have HX:=qh h;have HS:=qh hs;have hl:=hs.len;have hlI:(r.length:Int)≤1000:=by omega
 have hwr:=writeR_len hs;have HWR:=qh hwr;clear h hs hwr;go_enter Tryz.func67,Tryz.ntmps67;go_wp2_with fail;go_loopw [3,4] (fun s i wr=>∃ (k:Nat) (T:Bs),k≤r.length∧i=.int .i64 (k:Int)∧s=.string ⟨T.toArray⟩∧T=Lib.join ((r.map writeL).take k) [32,111,114,32]∧Below w.heap.size w wr) (fun _ i _=>r.length - (intOf i).toNat)
 case atStart=>exact ⟨0,[],Nat.zero_le _,rfl,rfl,rfl,Below.refl _ _⟩
 case round =>
  obtain ⟨k,T,hk,rfl,rfl,hT,hb⟩:=hrel;obtain ⟨wo,rfl⟩:∃ wo:World,wo=wr:=⟨_,rfl⟩;have hTl:T.length≤70000000000:=by rw [hT];exact Nat.le_trans (join_take_le _ _ _) HWR.o
  have HT:=qh hT;have HB:=qh hb;clear hT hb;by_cases hlt:k<r.length
  case neg =>
   have hkI:¬ (k:Int)<(r.length:Int):=by omega
   have hfin:T=writeR r:=by rw [HT.o,List.take_of_length_le (by simp;omega)];rfl
   have HF:=qh hfin;clear hfin;go_wp2_with fail;go_ret
   exact ⟨by rw [HF.o];rfl,HB.o⟩
  obtain ⟨b,o,rfl,hc⟩:=HX.o.at (by omega);obtain ⟨l,hlx⟩:∃ l,r[k]?=some l:=⟨r[k],List.getElem?_eq_getElem hlt⟩;obtain ⟨LA,ln,lc,m0,hL⟩:=hc k l hlx;obtain rfl:ln=l.length:=hL.len;have hnx:=join_take (ws:=r.map writeL) (k:=k) (x:=writeL l) [32,111,114,32] (by rw [List.getElem?_map,hlx];rfl);have HL:=qh hL;have hsl:=HS.o.rows l (List.mem_of_getElem? hlx);have hll:=hsl.1;have HSL:=qh hsl;have hllI:(l.length:Int)≤1000:=by omega
  have hwl:=writeL_len hsl;have HWL:=qh hwl;have HM0:=qh m0;have HNX:=qh hnx;have hkI:(k:Int)<(r.length:Int):=by omega
  have hk0:(0:Int)≤(k:Int):=by omega
  have m1:=(HB.o.cell (World.block_lt_of_cell? w _ m0)).trans m0;clear hc hlx m0 hL hsl hnx hwl;obtain ⟨T2,hT2⟩:∃ T2,T ++ (if 0<k then [32,111,114,32] else [])=T2:=⟨_,rfl⟩;have hT2l:T2.length≤70000000004:=by rw [← hT2];split <;> simp <;> omega
  have HT2:=qh hT2;clear hT2;go_upto_if 15 with fail;go_cut [3] (fun s wx=>s=.string ⟨T2.toArray⟩∧wx=wo)
  case first =>
   by_cases hk1:0<k
   ·have hk1I:(0:Int)<(k:Int):=by omega
    have he:(⟨T.toArray⟩:ByteArray) ++ ⟨#[32,111,114,32]⟩=⟨T2.toArray⟩:=by rw [← HT2.o,if_pos hk1,← ba_app]
    have HE:=qh he;clear hk1 he;go_wp2_with fail;go_meet
    exact ⟨by rw [← HE.o],rfl⟩
   ·have hk1I:¬ (0:Int)<(k:Int):=by omega
    have he:T=T2:=by rw [← HT2.o,if_neg hk1];simp
    have HE:=qh he;clear hk1 he;go_wp2_with fail;go_meet
    exact ⟨by rw [← HE.o],rfl⟩
  case rest =>
   obtain ⟨rfl,hwc⟩:=hcut;have hwc':=hwc.symm;subst hwc';go_step;go_wp2_with fail;go_loopw [3,5] (fun s j wr=>∃ (q:Nat) (U:Bs),q≤l.length∧j=.int .i64 (q:Int)∧s=.string ⟨U.toArray⟩∧U=T2 ++ Lib.join ((l.map writeC).take q) [32,97,110,100,32]∧Below wo.heap.size wo wr) (fun _ i _=>l.length - (intOf i).toNat)
   case atStart=>exact ⟨0,T2,Nat.zero_le _,rfl,rfl,by simp [Lib.join,List.intercalate],Below.refl _ _⟩
   case round =>
    obtain ⟨q,U,hq,rfl,rfl,hU,hb2⟩:=hrel;obtain ⟨wi,rfl⟩:∃ wi:World,wi=wr:=⟨_,rfl⟩
    have hUl:U.length≤70060000004:=by
     rw [hU,List.length_append];have h1:=join_take_le (l.map writeC) [32,97,110,100,32] q;have h2:=HWL.o;unfold writeL at h2;omega
    have HU:=qh hU;have HB2:=qt HB hb2;have HBI:=qh hb2;clear m1;have m1:=(HB2.o.cell (World.block_lt_of_cell? w _ HM0.o)).trans HM0.o;clear hU hb2;by_cases hql:q<l.length
    case neg =>
     have hqI:¬ (q:Int)<(l.length:Int):=by omega
     have hfin:U=Lib.join ((r.map writeL).take (k+1)) [32,111,114,32]:=by
      rw [HU.o,List.take_of_length_le (by simp;omega),HNX.o,← HT2.o,← HT.o];rfl
     have HF:=qh hfin;clear hfin;go_wp2_with fail;go_roundw
     case rel=>exact ⟨k+1,U,by omega,by go_num,rfl,HF.o,HB2.o⟩
     case measure=>simp [intOf];omega
    obtain ⟨xb,xo,rfl,hc2⟩:=HL.o.at (by omega);obtain ⟨d,hd⟩:∃ d,l[q]?=some d:=⟨l[q],List.getElem?_eq_getElem hql⟩;obtain ⟨FA,fn,fc,TA,tn,tc,hF,hTT,c0,c1,c2,c3,c4⟩:=hc2 q d hd;obtain rfl:fn=d.fr.length:=hF.len;obtain rfl:tn=d.to.length:=hTT.len;have cc:∀ (a:Addr) u,w.cell? a=some u→wi.cell? a=some u:=fun a u e=>(HB2.o.cell (World.block_lt_of_cell? w _ e)).trans e;have q0:=cc _ _ c0;have q1:=cc _ _ c1;have q2:=cc _ _ c2;have q3:=cc _ _ c3;have q4:=cc _ _ c4;have hsd:=HSL.o.2 d (List.mem_of_getElem? hd);have HSD:=qh hsd;have HF:=qh hF;have HTO:=qh hTT;have hdn:=join_take (ws:=l.map writeC) (k:=q) (x:=writeC d) [32,97,110,100,32] (by rw [List.getElem?_map,hd];rfl);have HDN:=qh hdn;have hlet:=hsd.letter;have hnf:(d.fr.length:Int)≤1000:=by have:=hsd.nf;omega
    have hnt:(d.to.length:Int)≤1000:=by have:=hsd.nt;omega
    have hqI:(q:Int)<(l.length:Int):=by omega
    have hq0:(0:Int)≤(q:Int):=by omega
    clear hc2 hd hF hTT c0 c1 c2 c3 c4 cc hsd hdn;obtain ⟨V,hV⟩:∃ V,U ++ (if 0<q then [32,97,110,100,32] else [])=V:=⟨_,rfl⟩;have hVl:V.length≤70060000009:=by rw [← hV];split <;> simp <;> omega
    have HV:=qh hV;clear hV;go_upto_if 35 with fail;refine wp_letter (fun wx=>Blk wx wi.heap.size 118 [.int .u8 (d.letter:Int),.int .i64 d.mod,.bool d.nt,.slice FA d.fr.length fc,.slice TA d.to.length tc]∧Below wi.heap.size wi wx) ⟨Blk.made _ 118 _ _ _ rfl rfl,(Below.refl _ _).alloc ql _⟩ ?_;rintro wx ⟨x0,x1⟩;generalize hg6:wi.heap.size=g6 at *
    have HG6:=qh hg6;clear hg6;have K6:=qh x0;have HBX:=qh x1;clear x0 x1 q0 q1 q2 q3 q4;go_cut [3] (fun s wv=>s=.string ⟨V.toArray⟩∧wv=wx)
    case first =>
     by_cases hk1:0<q
     ·have hk1I:(0:Int)<(q:Int):=by omega
      have he:(⟨U.toArray⟩:ByteArray) ++ ⟨#[32,97,110,100,32]⟩=⟨V.toArray⟩:=by rw [← HV.o,if_pos hk1,← ba_app]
      have HE:=qh he;clear hk1 he;go_wp2_with fail;go_meet
      exact ⟨by rw [← HE.o],rfl⟩
     ·have hk1I:¬ (0:Int)<(q:Int):=by omega
      have he:U=V:=by rw [← HV.o,if_neg hk1];simp
      have HE:=qh he;clear hk1 he;go_wp2_with fail;go_meet
      exact ⟨by rw [← HE.o],rfl⟩
    case rest =>
     obtain ⟨rfl,hwc⟩:=hcut;have hwc':=hwc.symm;subst hwc';obtain ⟨k0,k1⟩:=K6.o.c2;have hcv:=conv_one d.letter hlet wx;have hz6:=K6.o.lt;obtain ⟨H1,hH1⟩:∃ H1,V ++ [UInt8.ofNat d.letter]=H1:=⟨_,rfl⟩;have hH1l:H1.length≤70060000010:=by rw [← hH1];simp;omega
     have he1:(⟨V.toArray⟩:ByteArray) ++ ⟨#[UInt8.ofNat d.letter]⟩=⟨H1.toArray⟩:=by rw [← hH1,← ba_app]
     have HH1:=qh hH1;clear hH1;go_step;go_upto_if 46 with fail;refine wp_letter (fun wv=>Blk wv g6 118 [.int .u8 (d.letter:Int),.int .i64 d.mod,.bool d.nt,.slice FA d.fr.length fc,.slice TA d.to.length tc]∧Below g6 wi wv) ⟨K6.o.alloc _,HBX.o.alloc (Nat.le_of_lt K6.o.lt) _⟩ ?_;clear K6 HBX k0 k1 hcv he1 hwc;rintro wv ⟨x0,x1⟩;have K6:=qh x0;have HBV:=qh x1;obtain ⟨-,k1⟩:=x0.c2;clear x0 x1;obtain ⟨H2,hH2⟩:∃ H2,H1 ++ (if d.mod=0 then [] else [32,37,32] ++ Lib.itoa d.mod)=H2:=⟨_,rfl⟩;have hmi:=itoa_len HSD.o.mod;have hH2l:H2.length≤70060000040:=by rw [← hH2];split <;> simp <;> omega
     have HH2:=qh hH2;have hmod1:=HSD.o.mod.1;have hmod2:=HSD.o.mod.2;have HM1:=qh hmod1;have HM2:=qh hmod2;have hnt3:(H1 ++ [32,37,32]).length≤70060000013:=by simp;omega
     clear hH2 hmod1 hmod2;go_cut [3] (fun s wz=>s=.string ⟨H2.toArray⟩∧Below wv.heap.size wv wz)
     case first =>
      by_cases hm:d.mod=0
      ·have hmI:(d.mod != 0)=false:=by simp [hm]
       have he:H1=H2:=by rw [← HH2.o,if_pos hm];simp
       have HE:=qh he;clear hm he;go_wp2_with fail;go_meet
       exact ⟨by rw [← HE.o],Below.refl _ _⟩
      ·have hmI:(d.mod != 0)=true:=by simp [hm]
       obtain ⟨M,hM⟩:∃ M,Lib.itoa d.mod=M:=⟨_,rfl⟩;obtain ⟨N,hN⟩:∃ N,H1 ++ [32,37,32]=N:=⟨_,rfl⟩;have he1:(⟨H1.toArray⟩:ByteArray) ++ ⟨#[32,37,32]⟩=⟨N.toArray⟩:=by rw [← hN,← ba_app]
       have he2:(⟨N.toArray⟩:ByteArray) ++ ⟨M.toArray⟩=⟨H2.toArray⟩:=by rw [← HH2.o,if_neg hm,← hN,← hM,ba_app];simp
       have HMM:=qh hM;rw [hM] at hmi;rw [hN] at hnt3;clear hm hM hN;go_wp2_with fail;refine (ref_num wv d.mod HM1.o HM2.o).mono ?_;rw [HMM.o];rintro e w3 ⟨rfl,hb3⟩;dsimp only;go_wp2_with fail;go_meet
       exact ⟨rfl,hb3⟩
     case rest =>
      obtain ⟨rfl,hbz⟩:=hcut;have K7:=qh (K6.o.below hbz K6.o.lt);have HBZ:=qh (HBV.o.trans (hbz.mono (Nat.le_of_lt K6.o.lt)));obtain ⟨-,-,k2⟩:=K7.o.c3;clear hbz K6 HBV k1 hmi hnt3;obtain ⟨H3,hH3⟩:∃ H3,H2 ++ (if d.nt then [32,33,61,32] else [32,61,32])=H3:=⟨_,rfl⟩;have hH3l:H3.length≤70060000050:=by rw [← hH3];split <;> simp <;> omega
      have HH3:=qh hH3;clear hH3;go_step;go_upto_if 54 with fail;go_cut [3] (fun s wz=>s=.string ⟨H3.toArray⟩∧wz=wc)
      case first =>
       cases hnt:d.nt
       ·have he:(⟨H2.toArray⟩:ByteArray) ++ ⟨#[32,61,32]⟩=⟨H3.toArray⟩:=by rw [← HH3.o,hnt,← ba_app];simp
        have HE:=qh he;clear he;go_wp2_with fail;go_meet
        exact ⟨by rw [← HE.o],rfl⟩
       ·have he:(⟨H2.toArray⟩:ByteArray) ++ ⟨#[32,33,61,32]⟩=⟨H3.toArray⟩:=by rw [← HH3.o,hnt,← ba_app];simp
        have HE:=qh he;clear he;go_wp2_with fail;go_meet
        exact ⟨by rw [← HE.o],rfl⟩
      case rest =>
       rename_i wz0;obtain ⟨rfl,hwc⟩:=hcut;have hwc':=hwc.symm;subst hwc';have hhead:H3=V ++ headC d:=by rw [← HH3.o,← HH2.o,← HH1.o];simp [headC]
       have HHEAD:=qh hhead;clear hhead k2;go_step;refine wp_letter (fun wk=>Blk wk g6 118 [.int .u8 (d.letter:Int),.int .i64 d.mod,.bool d.nt,.slice FA d.fr.length fc,.slice TA d.to.length tc]∧Below g6 wi wk) ⟨K7.o,HBZ.o⟩ ?_;clear K7 HBZ hwc;rintro wk ⟨x0,x1⟩;have K8:=qh x0;have HBK:=qh x1;have hwg:w.heap.size≤g6:=by have:=HB2.o.size;have:=HG6.o;omega
       have hjl:(Lib.join (items d.fr d.to) [44]).length≤50000:=by
        have h1:=writeC_len HSD.o;rw [writeC_head,List.length_append] at h1;omega
       have HJL:=qh hjl;clear x0 x1 hjl;go_wp2_with fail;go_loopw [3,7] (fun s z wr=>∃ (j:Nat) (X:Bs),j≤d.fr.length∧j≤d.to.length∧z=.int .i64 (j:Int)∧s=.string ⟨X.toArray⟩∧X=H3 ++ Lib.join ((items d.fr d.to).take j) [44]∧Below wk.heap.size wk wr) (fun _ z _=>d.fr.length - (intOf z).toNat)
       case atStart=>exact ⟨0,H3,Nat.zero_le _,Nat.zero_le _,rfl,rfl,by simp [Lib.join,List.intercalate],Below.refl _ _⟩
       case round =>
        obtain ⟨j,X,hj1,hj2,rfl,rfl,hX,hb3⟩:=hrel;obtain ⟨wo2,rfl⟩:∃ wo2:World,wo2=wr:=⟨_,rfl⟩
        have hXl:X.length≤70060060100:=by
         rw [hX,List.length_append];have h1:=join_take_le (items d.fr d.to) [44] j;have h2:=HJL.o;omega
        have HXX:=qh hX;have y0:=K8.o.below hb3 K8.o.lt;obtain ⟨-,-,-,k3,k4⟩:=y0.c5;have HBI2:=qh (HBI.o.trans ((HBK.o.trans (hb3.mono (Nat.le_of_lt K8.o.lt))).mono (by have:=HBI.o.size;have:=HG6.o;omega)));have HBJ:=qh hb3;clear hX hb3 y0
        have hdone:¬ (j<d.fr.length∧j<d.to.length)→X=T2 ++ Lib.join ((l.map writeC).take (q+1)) [32,97,110,100,32]:=fun h=>by
         rw [HXX.o,List.take_of_length_le (by rw [items_len];omega),HHEAD.o,HDN.o,← HV.o,HU.o,writeC_head];simp
        have HDONE:=qh hdone;clear hdone;by_cases h1:j<d.fr.length
        case neg =>
         have h1I:¬ (j:Int)<(d.fr.length:Int):=by omega
         have hfin:=qh (HDONE.o (fun h=>h1 h.1));clear h1;go_wp2_with fail;go_roundw
         case rel=>exact ⟨q+1,X,by omega,by go_num,rfl,hfin.out,HBI2.o⟩
         case measure=>simp [intOf];omega
        have h1I:(j:Int)<(d.fr.length:Int):=by omega
        by_cases h2:j<d.to.length
        case neg =>
         have h2I:¬ (j:Int)<(d.to.length:Int):=by omega
         have hfin:=qh (HDONE.o (fun h=>h2 h.2));clear h1 h2;go_wp2_with fail;go_roundw
         case rel=>exact ⟨q+1,X,by omega,by go_num,rfl,hfin.out,HBI2.o⟩
         case measure=>simp [intOf];omega
        have h2I:(j:Int)<(d.to.length:Int):=by omega
        have HBW2:=qh (HB.o.trans (HBI2.o.mono HB.o.size));obtain ⟨fb,fo,rfl,hfc⟩:=HF.o.at (by omega);obtain ⟨tb,tq,rfl,htc⟩:=HTO.o.at (by omega);obtain ⟨x,hx⟩:∃ x,d.fr[j]?=some x:=⟨d.fr[j],List.getElem?_eq_getElem h1⟩;obtain ⟨y,hy⟩:∃ y,d.to[j]?=some y:=⟨d.to[j],List.getElem?_eq_getElem h2⟩;have HCF:Hid (∀ w',Below w.heap.size w w'→w'.cell? ⟨fb,fo+j,none⟩=some (.int .i64 x)∧w'.cell? ⟨tb,tq+j,none⟩=some (.int .i64 y)):=fun w' h=>⟨(h.cell (World.block_lt_of_cell? w _ (hfc j x hx))).trans (hfc j x hx),(h.cell (World.block_lt_of_cell? w _ (htc j y hy))).trans (htc j y hy)⟩;have hxb:=HSD.o.fr x (List.mem_of_getElem? hx);have hyb:=HSD.o.tl y (List.mem_of_getElem? hy);have hxl:=itoa_len hxb;have hyl:=itoa_len hyb;have HXB:=qh hxb;have HYB:=qh hyb;have hnx:=join_take (k:=j) [44] (items_at d.fr d.to j x y hx hy);have HNX2:=qh hnx;have hj0:(0:Int)≤(j:Int):=by omega
        obtain ⟨Y,hY⟩:∃ Y,X ++ (if 0<j then [44] else [])=Y:=⟨_,rfl⟩;have hYl:Y.length≤70060060101:=by rw [← hY];split <;> simp <;> omega
        have HY:=qh hY;clear hfc htc hx hy hxb hyb hnx hY h1 h2;go_upto_if 74 with fail;go_cut [3] (fun s wz=>s=.string ⟨Y.toArray⟩∧wz=wo2)
        case first =>
         by_cases hk1:0<j
         ·have hk1I:(0:Int)<(j:Int):=by omega
          have he:(⟨X.toArray⟩:ByteArray) ++ ⟨#[44]⟩=⟨Y.toArray⟩:=by rw [← HY.o,if_pos hk1,← ba_app]
          have HE:=qh he;clear hk1 he;go_wp2_with fail;go_meet
          exact ⟨by rw [← HE.o],rfl⟩
         ·have hk1I:¬ (0:Int)<(j:Int):=by omega
          have he:X=Y:=by rw [← HY.o,if_neg hk1];simp
          have HE:=qh he;clear hk1 he;go_wp2_with fail;go_meet
          exact ⟨by rw [← HE.o],rfl⟩
        case rest =>
         obtain ⟨rfl,hwc⟩:=hcut;have hwc':=hwc.symm;subst hwc';clear hwc;obtain ⟨c1,c2⟩:=HCF.o wo2 HBW2.o;obtain ⟨MX,hMX⟩:∃ M,Lib.itoa x=M:=⟨_,rfl⟩;obtain ⟨Y1,hY1⟩:∃ M,Y ++ MX=M:=⟨_,rfl⟩;rw [hMX] at hxl;have hY1l:Y1.length≤70060060130:=by rw [← hY1];simp;omega
         have he1:(⟨Y.toArray⟩:ByteArray) ++ ⟨MX.toArray⟩=⟨Y1.toArray⟩:=by rw [← hY1,← ba_app]
         have HMX:=qh hMX;have HY1:=qh hY1;clear hMX hY1;go_step;go_wp2_with fail;refine (ref_num wo2 x HXB.o.1 HXB.o.2).mono ?_;rw [HMX.o];rintro e w3 ⟨rfl,hb3⟩;have y0:=K8.o.below (HBJ.o.trans (hb3.mono HBJ.o.size)) K8.o.lt;have HBJ3:=qt HBJ hb3;have HBW3:=qt HBW2 hb3;clear k3 k4 c1 c2 hb3;obtain ⟨-,-,-,k3,k4⟩:=y0.c5;obtain ⟨c1,c2⟩:=HCF.o w3 HBW3.o;clear y0;dsimp only;go_upto_region 25 with fail
         go_region
         by_cases hxy:y=x
         ·have hxyI:(y != x)=false:=by simp [hxy]
          have hfin:Y1=H3 ++ Lib.join ((items d.fr d.to).take (j+1)) [44]:=by
           rw [HNX2.o,← HY1.o,← HY.o,HXX.o,← HMX.o];unfold itemW;rw [if_pos hxy];simp
          have HFN:=qh hfin;clear hfin hxy;go_wp2_with fail;go_roundw
          case rel=>exact ⟨j+1,Y1,by omega,by omega,by go_num,rfl,HFN.o,HBJ3.o.drew⟩
          case measure=>simp [intOf];omega
         ·have hxyI:(y != x)=true:=by simp [hxy]
          obtain ⟨MY,hMY⟩:∃ M,Lib.itoa y=M:=⟨_,rfl⟩;obtain ⟨Y2,hY2⟩:∃ M,Y1 ++ [46,46]=M:=⟨_,rfl⟩;obtain ⟨Y3,hY3⟩:∃ M,Y2 ++ MY=M:=⟨_,rfl⟩;rw [hMY] at hyl;have hY2l:Y2.length≤70060060140:=by rw [← hY2];simp;omega
          have he2:(⟨Y1.toArray⟩:ByteArray) ++ ⟨#[46,46]⟩=⟨Y2.toArray⟩:=by rw [← hY2,← ba_app]
          have he3:(⟨Y2.toArray⟩:ByteArray) ++ ⟨MY.toArray⟩=⟨Y3.toArray⟩:=by rw [← hY3,← ba_app]
          have hfin:Y3=H3 ++ Lib.join ((items d.fr d.to).take (j+1)) [44]:=by
           rw [HNX2.o,← hY3,← hY2,← HY1.o,← HY.o,HXX.o,← HMX.o,← hMY];unfold itemW;rw [if_neg hxy];simp
          have HFN:=qh hfin;have HMY:=qh hMY;clear hfin hxy hMY hY2 hY3;go_wp2_with fail;refine (ref_num _ y HYB.o.1 HYB.o.2).mono ?_;rw [HMY.o];rintro e w4 ⟨rfl,hb4⟩;have HBJ4:=qh (HBJ3.o.drew.trans (hb4.mono HBJ3.o.drew.size));clear hb4;dsimp only;go_wp2_with fail;go_roundw
          case rel=>exact ⟨j+1,Y3,by omega,by omega,by go_num,rfl,HFN.o,HBJ4.o⟩
          case measure=>simp [intOf];omega
theorem az_eq (b:UInt8):az.contains b=(decide (97≤b.toNat) && decide (b.toNat≤122)):=by
 have h:∀ n:Fin 256,az.contains (UInt8.ofNat n)=(decide (97≤n.1) && decide (n.1≤122)):=by decide +kernel
 have:=h ⟨b.toNat,b.toNat_lt⟩;simpa using this
theorem ref_all (w:World) (s:Bs) (hs:s.length≤1000000) :
  Calls Tryz.prog 121 #[.string ⟨s.toArray⟩,.int .u8 97,.int .u8 122] w fun e w'=>e=.returned (.bool (s.all fun b=>az.contains b))∧w'=w:=by
 obtain ⟨S,hS⟩:∃ S,(s.all fun b=>az.contains b)=S:=⟨_,rfl⟩;rw [hS];have HS:=qh hS;have hsI:(s.length:Int)≤1000000:=by omega
 clear hS;go_enter Tryz.func121,Tryz.ntmps121;go_wp2_with fail;go_loop [7] (fun i=>∃ k:Nat,k≤s.length∧i=.int .i64 (k:Int)∧∀ b ∈ s.take k,az.contains b=true) (fun i=>s.length - (intOf i).toNat)
 case atStart=>exact ⟨0,Nat.zero_le _,rfl,by simp⟩
 case round =>
  obtain ⟨k,hk,rfl,hall⟩:=hrel;have HALL:=qh hall;clear hall;by_cases hlt:k<s.length
  ·have hI:(k:Int)<(s.length:Int):=by omega
   have hk0:(0:Int)≤(k:Int):=by omega
   obtain ⟨hkk,ex⟩:=ba_get s k s[k] (List.getElem?_eq_getElem hlt);obtain ⟨d,hd⟩:∃ d,s[k].toNat=d:=⟨_,rfl⟩;have ex':((⟨s.toArray⟩:ByteArray)[k]).toNat=d:=by rw [ex,hd]
   have haz:az.contains s[k]=(decide (97≤d) && decide (d≤122)):=by rw [az_eq,hd]
   have HAZ:=qh haz;have hno:az.contains s[k]=false→S=false:=fun h=>by rw [← HS.o,List.all_eq_false];exact ⟨_,List.getElem_mem hlt,by rw [h];simp⟩
   have HNO:=qh hno
   have hnx:az.contains s[k]=true→∀ b ∈ s.take (k+1),az.contains b=true:=fun h b hb=>by
    rw [List.take_add_one,List.getElem?_eq_getElem hlt] at hb;rcases List.mem_append.1 hb with h'|h'
    ·exact HALL.o b h'
    ·obtain rfl:b=s[k]:=by simpa using h'
     exact h
   have HNX:=qh hnx;clear ex hd haz hno hnx;by_cases h97:d<97
   ·have h97I:(d:Int)<97:=by omega
    have HF:Hid (S=false):=HNO.o (by rw [HAZ.o];simp;omega);go_wp2_with fail;go_ret
    exact ⟨by rw [HF.o];rfl,rfl⟩
   have h97I:¬ (d:Int)<97:=by omega
   by_cases h122:122<d
   ·have h122I:122<(d:Int):=by omega
    have HF:Hid (S=false):=HNO.o (by rw [HAZ.o];simp;omega);go_wp2_with fail;go_ret
    exact ⟨by rw [HF.o];rfl,rfl⟩
   have h122I:¬ 122<(d:Int):=by omega
   have HT:=qh (HNX.o (by rw [HAZ.o];simp;omega));go_wp2_with fail;go_round
   case rel=>exact ⟨k+1,by omega,by go_num,HT.o⟩
   case measure=>simp [intOf];omega
  ·have hI:¬ (k:Int)<(s.length:Int):=by omega
   have hfin:S=true:=by
    rw [← HS.o,List.all_eq_true];have h:=HALL.o;rw [List.take_of_length_le (by omega)] at h;exact h
   have HF:=qh hfin;clear hfin;go_wp2_with fail;go_ret
   exact ⟨by rw [HF.o];rfl,rfl⟩
theorem ref_Lang (w:World) (s:Bs) (hs:s.length≤1000000) :
  Calls Tryz.prog 72 #[.string ⟨s.toArray⟩] w fun e w'=>e=.returned (.bool (langP s))∧w'=w:=by
 have hall:=ref_all w s hs;have hL:langP s=(decide (2≤s.length) && (decide (s.length≤3) && s.all fun b=>az.contains b)):=rfl;generalize (s.all fun b=>az.contains b)=S at *
 generalize langP s=C at *
 have HL:=qh hL;have HA:=qh hall;clear hL hall;by_cases h2:s.length=2
 ·have i2:((s.length:Int) == 2)=true:=by rw [h2];rfl
  have hl:C=S:=by rw [HL.o];simp [h2]
  rw [hl];clear hl h2;go_enter Tryz.func72,Tryz.ntmps72;go_wp2_with fail;refine HA.o.mono ?_;rintro e w1 ⟨rfl,h1⟩;subst w1;dsimp only;go_wp2_with fail;go_ret
  exact ⟨rfl,rfl⟩
 have i2:((s.length:Int) == 2)=false:=by rw [beq_eq_false_iff_ne];omega
 by_cases h3:s.length=3
 ·have i3:((s.length:Int) == 3)=true:=by rw [h3];rfl
  have hl:C=S:=by rw [HL.o];simp [h3]
  rw [hl];clear hl h2 h3;go_enter Tryz.func72,Tryz.ntmps72;go_wp2_with fail;refine HA.o.mono ?_;rintro e w1 ⟨rfl,h1⟩;subst w1;dsimp only;go_wp2_with fail;go_ret
  exact ⟨rfl,rfl⟩
 ·have i3:((s.length:Int) == 3)=false:=by rw [beq_eq_false_iff_ne];omega
  have hl:C=false:=by
   rw [HL.o];by_cases h:2≤s.length
   ·have:¬ s.length≤3:=by omega
    simp [this]
   ·simp [h]
  rw [hl];clear hl h2 h3;go_enter Tryz.func72,Tryz.ntmps72;go_wp2_with fail;go_ret
  exact ⟨rfl,rfl⟩
theorem ref_Category (w:World) (s:Bs):Calls Tryz.prog 73 #[.string ⟨s.toArray⟩] w fun e w'=>e=.returned (.bool (catP s))∧w'=w:=by
 have hv:catP s=((s == [122,101,114,111]) || (s == [111,110,101]) || (s == [116,119,111]) || (s == [102,101,119]) || (s == [109,97,110,121]) || (s == [111,116,104,101,114])):=by
  have q:∀ l:Bs,decide (s=l)=(s == l):=fun l=>by rw [Bool.eq_iff_iff];simp
  unfold catP;simp only [q]
 obtain ⟨C,hC⟩:∃ C,catP s=C:=⟨_,rfl⟩;rw [hC] at hv ⊢;have HV:=qh hv;clear hv hC;rcases Bool.eq_false_or_eq_true (s == [122,101,114,111]) with e0|e0
 rotate_left
 rcases Bool.eq_false_or_eq_true (s == [111,110,101]) with e1|e1
 rotate_left
 rcases Bool.eq_false_or_eq_true (s == [116,119,111]) with e2|e2
 rotate_left
 rcases Bool.eq_false_or_eq_true (s == [102,101,119]) with e3|e3
 rotate_left
 rcases Bool.eq_false_or_eq_true (s == [109,97,110,121]) with e4|e4
 rotate_left
 rcases Bool.eq_false_or_eq_true (s == [111,116,104,101,114]) with e5|e5
 all_goals
  have hc:=HV.o;simp only [*,Bool.false_or,Bool.or_false,Bool.true_or,Bool.or_true] at hc;have HC:=qh hc;clear hc;go_enter Tryz.func73,Tryz.ntmps73;go_wp2_with fail;go_ret
  exact ⟨by rw [HC.o];rfl,rfl⟩
theorem ref_joined (w:World) (A:Option Addr) (n c:Nat) (ws:List Bs) (h:StrsAre w A n c ws) (hl:ws.length≤1000000) (hj:(Lib.join ws [32]).length≤70000000000) :
  Calls Tryz.prog 74 #[.slice A n c] w fun e w'=>e=.returned (.string ⟨(Lib.join ws [32]).toArray⟩)∧w'=w:=by
 obtain rfl:n=ws.length:=h.len;have HX:=qh h;have HJ:=qh hj;have hlI:(ws.length:Int)≤1000000:=by omega
 clear h hj;go_enter Tryz.func74,Tryz.ntmps74;go_wp2_with fail;go_loop [3,4] (fun s i=>∃ (k:Nat) (T:Bs),k≤ws.length∧i=.int .i64 (k:Int)∧s=.string ⟨T.toArray⟩∧T=Lib.join (ws.take k) [32]) (fun _ i=>ws.length - (intOf i).toNat)
 case atStart=>exact ⟨0,[],Nat.zero_le _,rfl,rfl,rfl⟩
 case round =>
  obtain ⟨k,T,hk,rfl,rfl,hT⟩:=hrel;have hTl:T.length≤70000000000:=by rw [hT];exact Nat.le_trans (join_take_le _ _ _) HJ.o
  have HT:=qh hT;clear hT;by_cases hlt:k<ws.length
  case neg =>
   have hkI:¬ (k:Int)<(ws.length:Int):=by omega
   have hfin:T=Lib.join ws [32]:=by rw [HT.o,List.take_of_length_le (by omega)]
   have HF:=qh hfin;clear hfin;go_wp2_with fail;go_ret
   exact ⟨by rw [HF.o];rfl,rfl⟩
  obtain ⟨b,o,rfl,hc⟩:=HX.o.at (by omega);obtain ⟨t,ht⟩:∃ t,ws[k]?=some t:=⟨ws[k],List.getElem?_eq_getElem hlt⟩;have m0:=hc k t ht;have hnx:=join_take [32] ht;have htl:(Lib.join (ws.take (k+1)) [32]).length≤70000000000:=Nat.le_trans (join_take_le _ _ _) HJ.o;rw [hnx,← HT.o] at htl;have HNX:=qh hnx;have hkI:(k:Int)<(ws.length:Int):=by omega
  have hk0:(0:Int)≤(k:Int):=by omega
  clear hc ht hnx;by_cases hk1:0<k
  ·have hk1I:(0:Int)<(k:Int):=by omega
   obtain ⟨T2,hT2⟩:∃ T2,T ++ [32]=T2:=⟨_,rfl⟩;rw [if_pos hk1,hT2] at htl;have hT2l:T2.length≤70000000000:=by rw [List.length_append] at htl;omega
   have htl2:t.length≤70000000000:=by rw [List.length_append] at htl;omega
   have he:(⟨T.toArray⟩:ByteArray) ++ ⟨#[32]⟩=⟨T2.toArray⟩:=by rw [← hT2,← ba_app]
   have hn2:Lib.join (ws.take (k+1)) [32]=T2 ++ t:=by rw [HNX.o,if_pos hk1,← HT.o,hT2]
   have HN:=qh hn2;clear hT2 hn2 hk1;go_wp2_with fail;go_round
   case rel=>exact ⟨k+1,T2 ++ t,by omega,by go_num,by rw [← ba_app,← he],HN.o.symm⟩
   case measure=>simp [intOf];omega
  ·have hk1I:¬ (0:Int)<(k:Int):=by omega
   rw [if_neg hk1,List.append_nil] at htl;have htl2:t.length≤70000000000:=by rw [List.length_append] at htl;omega
   have hn2:Lib.join (ws.take (k+1)) [32]=T ++ t:=by rw [HNX.o,if_neg hk1,← HT.o,List.append_nil]
   have HN:=qh hn2;clear hn2 hk1;go_wp2_with fail;go_round
   case rel=>exact ⟨k+1,T ++ t,by omega,by go_num,by rw [← ba_app],HN.o.symm⟩
   case measure=>simp [intOf];omega
theorem Tryz_info138:(Tryz.prog.info? 138).map (fun i=>(i.zero,i.size,i.bytes))=some (some (.agg #[.int .i64 0,.slice none 0 0]),2,32):=by kernel_rfl
theorem law_rowsOf (w:World) (A:Option Addr) (n c:Nat) (L:List Rw) (h:RowsIs w A n c L) (hl:L.length≤1000) :
  Calls Tryz.prog 40 #[.slice A n c] w fun e w'=>∃ A n c,e=.returned (.slice A n c)∧RowsIs w' A n c L∧Below w.heap.size w w':=by
 obtain ⟨i9,hi9,hz90,hz91,hz92⟩:=info_parts Tryz_info138;obtain ⟨es,rfl,⟨A',c',h1,h2,h3,h4⟩,h5⟩:=h;obtain ⟨rfl,rfl,rfl⟩:=Value.slice.inj h1;rw [List.length_map] at hl;have H4:=qh h4;have H5:=qh h5;have hlI:(es.length:Int)≤1000:=by omega
 have hmx:=maxLen_ge;clear h1 h3 h4 h5;go_enter Tryz.func40,Tryz.ntmps40;go_wp2_with fail;go_loopw [3,4] (fun v i wr=>∃ k:Nat,k≤es.length∧i=.int .i64 k∧wr.ownsRow w.heap.size 138 2 v k (cells2 ((es.take k).map rcell))∧Below w.heap.size w wr) (fun _ i _=>es.length - (intOf i).toNat)
 case atStart=>exact ⟨0,Nat.zero_le _,rfl,World.ownsRow_nil _ _ _ _,Below.refl _ _⟩
 case round =>
  obtain ⟨k,hk,rfl,ho,hb⟩:=hrel;obtain ⟨wo,rfl⟩:∃ wo:World,wo=wr:=⟨_,rfl⟩;have HO:=qh ho;have HB:=qh hb;have hsz:=hb.size;clear ho hb;by_cases hlt:k<es.length
  case neg =>
   have hkI:¬ (k:Int)<(es.length:Int):=by omega
   have ho:=HO.o;rw [List.take_of_length_le (by omega)] at ho;obtain rfl:k=es.length:=by omega
   have hs:=SlC.own ho;obtain ⟨VA,vc,rfl,-⟩:=id hs;have hfin:RowsIs wo VA es.length vc (es.map rrow):=⟨es,rfl,hs,fun e he=>by obtain ⟨A,n,c,e1,h6⟩:=H5.o e he;exact ⟨A,n,c,e1,h6.below HB.o ql⟩⟩;have HF:=qh hfin;clear hfin hs ho;go_wp2_with fail;go_ret
   exact ⟨_,_,_,rfl,HF.o,HB.o⟩
  obtain ⟨b,o,rfl,hc⟩:=H4.o (by rw [cells2_len,List.length_map];omega);obtain ⟨e,he⟩:∃ e,es[k]?=some e:=⟨es[k],List.getElem?_eq_getElem hlt⟩;obtain ⟨WA,wn,wc,hv,-⟩:=H5.o e (List.mem_of_getElem? he);obtain ⟨c0,c1⟩:=cells2_at (es.map rcell) k (rcell e) (by rw [List.getElem?_map,he];rfl);have m0:=hc _ _ c0;have m1:=hc _ _ c1;rw [← Nat.add_assoc] at m1;simp only [rcell,hv] at m0 m1;have HM:Hid (∀ w',Below w.heap.size w w'→w'.cell? ⟨b,o+k * 2,none⟩=some (.int .i64 e.1)∧w'.cell? ⟨b,o+k * 2+1,none⟩=some (.slice WA wn wc)∧Below w.heap.size w w'):=fun w' h=>⟨(h.cell (World.block_lt_of_cell? w _ m0)).trans m0,(h.cell (World.block_lt_of_cell? w _ m1)).trans m1,h⟩
  have hnx:cells2 ((es.take (k+1)).map rcell)=cells2 ((es.take k).map rcell) ++ [.int .i64 e.1,.slice WA wn wc]:=by
   rw [List.take_add_one,he,List.map_append,Option.toList_some,List.map_singleton,cells2_snoc];simp only [rcell,hv]
  have HN:=qh hnx;have hkI:(k:Int)<(es.length:Int):=by omega
  have hk0:(0:Int)≤(k:Int):=by omega
  clear hc he hv c0 c1 m0 m1 hnx;go_upto_region 5 with fail;refine wp_region_but (fun w'=>w'.cell? ⟨b,o+k * 2,none⟩=some (.int .i64 e.1)∧w'.cell? ⟨b,o+k * 2+1,none⟩=some (.slice WA wn wc)∧Below w.heap.size w w') (by kernel_rfl) (by kernel_rfl) (HM.o _ HB.o.drew) (fun hHeld=>?_);simp only [initL,lastL];refine takeA (i:=0) ?_
  try simp only [Act.put,MT,M0,M1]
  refine takeA (i:=1) ?_
  try simp only [Act.put,MT,M0,M1]
  refine takeA (i:=2) ?_
  try simp only [Act.put,MT,M0,M1]
  refine takeA (i:=3) ?_
  try simp only [Act.put,MT,M0,M1]
  refine takeA (i:=4) ?_
  try simp only [Act.put,MT,M0,M1]
  refine takeA (i:=5) ?_
  try simp only [Act.put,MT,M0,M1]
  refine takeA (i:=6) ?_
  try simp only [Act.put,MT,M0,M1]
  refine takeA (i:=7) ?_
  try simp only [Act.put,MT,M0,M1]
  refine takeA (i:=8) ?_
  try simp only [Act.put,MT,M0,M1]
  refine takeA (i:=9) ?_
  try simp only [Act.put,MT,M0,M1]
  refine takeA (i:=10) ?_
  try simp only [Act.put,MT,M0,M1]
  refine takeA (i:=11) ?_
  try simp only [Act.put,MT,M0,M1]
  refine wpAnyH_ready (rs:=[12]) (by kernel_rfl) (by simp) ?_;refine consL rfl (fun K2 hK=>?_) AllReadyH.nil;go_simp
  try clear hHeld
  refine hK.out _ _ (HM.o _ (HB.o.drew.alloc (by simp;omega) _)) (fun hHeld=>?_);clear hK K2
  try simp only [Act.put,MT,M0,M1]
  refine wpAnyH_ready (rs:=[13]) (by kernel_rfl) (by simp) ?_;refine consL rfl (fun K2 hK=>?_) AllReadyH.nil;refine step_append_lies _ rfl (.tmp 11) (.tmp 23) 88 rfl w.heap.size 138 i9 (.agg #[.int .i64 0,.slice none 0 0]) 2 32 Tryz.underlying88 hi9 hz90 hz91 hz92 rfl (by decide) _ k (cells2 ((es.take k).map rcell)) rfl (World.ownsRow.alloc (own_kept_below HO.o (Below.refl _ _).drew) _) ⟨wo.heap.size,0,none⟩ 1 1 [.int .i64 e.1,.slice WA wn wc] rfl rfl (World.news_of_block (heap_alloc_new _ _)) (by simp [Value.oneCell']) (by omega) (by omega) (by omega) (by simp;omega) (wo.heap.size+1) (by simp) ?_;intro g' cap' w7 hown hgrow hat hlt';have HO7:=qh hown;have HB7:=qh (below_grown (HB.o.drew.alloc (by simp;omega) _) hgrow (by simp;omega) (fun j hj=>(World.ownsRow.lt HO.o j hj).1));clear hown hgrow hat
  try clear hHeld
  refine hK.out _ _ (HM.o _ HB7.o) (fun hHeld=>?_);clear hK K2
  try simp only [Act.put,MT,M0,M1]
  refine wpAnyH_done (by kernel_rfl) ?_ _;clear hHeld;unfold TailQ;go_wp2_with fail;go_roundw
  case rel=>exact ⟨k+1,by omega,by go_num,by rw [HN.o];exact HO7.o,HB7.o⟩
  case measure=>simp [intOf];omega
end Go.Proofs.YtdgleeglndcjhaaGreatDoor
