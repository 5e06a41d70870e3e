import Derived.Test.YtdgleeglndcjhaaGreatDoorX10
import Derived.Test.YtdgleeglndcjhaaGreatDoorX23
import Derived.Test.YtdgleeglndcjhaaGreatDoorX18
import Derived.BigQuiet
set_option linter.unusedSimpArgs false
set_option linter.unusedVariables false
set_option maxHeartbeats 16000000
set_option maxRecDepth 100000
namespace Go.Proofs.YtdgleeglndcjhaaGreatDoor
open Go.RowKit
def OpV (w:World) (g:Nat) (val:Nat→Nat × Nat):Prop :=
 ∃ b A n c A' n' c' iA il ic fA fl fc tA tl tc k s m i v u f t,Blk w g 39 [.bool b,.slice A n c,.slice A' n' c',.slice iA il ic,.int .i64 (v:Nat),.int .i64 (u:Nat),.slice fA fl fc,.slice tA tl tc] ∧
  OpR w b A n c A' n' c' iA il ic fA fl fc tA tl tc k s m i v u f t∧63≤m∧m≤40000∧val=opVal k s i v u f t
theorem OpV.below {w w':World} {g:Nat} {val:Nat→Nat × Nat} (h:OpV w g val) (hb:Below w.heap.size w w'):OpV w' g val:=by
 obtain ⟨b,A,n,c,A',n',c',iA,il,ic,fA,fl,fc,tA,tl,tc,k,s,m,i,v,u,f,t,h1,h2,h3,h4,h5⟩:=h;exact ⟨b,A,n,c,A',n',c',iA,il,ic,fA,fl,fc,tA,tl,tc,k,s,m,i,v,u,f,t,h1.below hb h1.lt,h2.below hb ql,h3,h4,h5⟩
theorem IntsAre.il {w:World} {A:Option Addr} {n c:Nat} {L:List Nat} (h:IntsAre w A n c (L.map fun x:Nat=>(x:Int))):IL w A n c L:=by
 unfold IntsAre ints at h;rw [List.map_map,List.length_map] at h;exact h
theorem zip_back:∀ L:List (Nat × Nat),(L.map (·.1)).zip (L.map (·.2))=L
 | []=>rfl
 | e :: L=>by rw [List.map_cons,List.map_cons,List.zip_cons_cons,zip_back L]
theorem holds_11 (w:World) (c:Cnd) (FA TA:Option Addr) (fn fc tn tc g:Nat) (val:Nat→Nat × Nat) (hf:IntsAre w FA fn fc c.fr) (ht:IntsAre w TA tn tc c.to) (hv:Valid c) (hs:SmallC c) (ho:OpV w g val) :
  Calls Tryz.prog 56 #[.agg #[.int .u8 (c.letter:Int),.int .i64 c.mod,.bool c.nt,.slice FA fn fc,.slice TA tn tc],.pointer (some ⟨g,0,none⟩)] w fun e w'=>e=.returned (.bool (!condV val c))∧Below w.heap.size w w':=by
 obtain ⟨l,m,L,hl,hm,h0,h5,he⟩:=hv.mk';obtain ⟨b,A,n,cc,A',n',c',iA,il,ic,fA,fl,fcc,tA,tl,tcc,k,s,mm,i,v,u,f,t,hB,hO,h63,h40,hval⟩:=ho
 have hcv:condV val c=condHolds (opVal k s i v u f t l.toNat).1 (opVal k s i v u f t l.toNat).2 m c.nt ((L.map (·.1)).zip (L.map (·.2))):=by
  rw [he,condV_mk,hval];rw [zip_back]
  rfl
 rw [hcv];have efr:c.fr=(L.map (·.1)).map fun x:Nat=>(x:Int):=by rw [he,List.map_map];rfl
 have eto:c.to=(L.map (·.2)).map fun x:Nat=>(x:Int):=by rw [he,List.map_map];rfl
 rw [efr] at hf;rw [eto] at ht;have HFI:=qh (IntsAre.il hf);have HTI:=qh (IntsAre.il ht);have hlet:c.letter=l.toNat:=by rw [he];rfl
 have hmod:c.mod=(m:Int):=by rw [he];rfl
 rw [hlet,hmod];have HBL:=qh hB;have HOP:=qh hO;have HL:=qh h5;have hlen:L.length≤1000:=by have:=hs.nf;rw [he] at this;simpa [mkC] using this
 generalize c.nt=nt at *
 clear hf ht hv hs hB hO hval hcv he hlet hmod h5 efr eto;obtain ⟨q,hq⟩:∃ q,condHolds (opVal k s i v u f t l.toNat).1 (opVal k s i v u f t l.toNat).2 m nt ((L.map (·.1)).zip (L.map (·.2)))=q:=⟨_,rfl⟩;rw [hq];have HQ:=qh hq;clear hq;have hz:=HBL.o.lt;go_enter Tryz.func56,Tryz.ntmps56;have hba:=(Below.refl w.heap.size w).alloc ql (.cells #[.int .u8 (l.toNat:Int),.int .i64 (m:Int),.bool nt,.slice FA fn fc,.slice TA tn tc] 47);have b1:=HBL.o.alloc (.cells #[.int .u8 (l.toNat:Int),.int .i64 (m:Int),.bool nt,.slice FA fn fc,.slice TA tn tc] 47);have HBA:=qh hba;go_upto_region 1 with fail;refine wp_letter (fun w1=>Blk w1 w.heap.size 47 [.int .u8 (l.toNat:Int),.int .i64 (m:Int),.bool nt,.slice FA fn fc,.slice TA tn tc]∧Blk w1 g 39 [.bool b,.slice A n cc,.slice A' n' c',.slice iA il ic,.int .i64 (v:Nat),.int .i64 (u:Nat),.slice fA fl fcc,.slice tA tl tcc]∧Below w.heap.size w w1) ⟨Blk.made _ 47 _ _ _ rfl rfl,b1,hba⟩ ?_;clear hba b1 HBA;rintro w1 ⟨b0,b1,hb⟩;have HB:=qh hb;obtain ⟨k0,k1,k2,k3,k4⟩:=b0.c5;obtain ⟨j0,j1,j2,j3,j4,j5,j6,j7⟩:=b1.c8;clear b0 b1 hb;go_wp2_with fail
 refine (cond_holds w1 b nt A A' iA fA tA FA TA n cc n' c' il ic fl fcc tl tcc k s mm i v u f t l.toNat m fn fc tn tc (L.map (·.1)) (L.map (·.2)) (HOP.o.below HB.o ql) h63 h40 (HFI.o.below HB.o ql) (HTI.o.below HB.o ql) (by simp) (by simp;omega) (by omega)
  (fun x hx=>by obtain ⟨e,he,rfl⟩:=List.mem_map.1 hx;have:=HL.o e he;omega) (fun x hx=>by obtain ⟨e,he,rfl⟩:=List.mem_map.1 hx;have:=HL.o e he;omega)).mono ?_
 rintro e w2 ⟨rfl,hb2⟩;have HB2:=qt HB hb2;clear hb2 k0 k1 k2 k3 k4 j0 j1 j2 j3 j4 j5 j6 j7;rw [HQ.o];dsimp only;go_wp2_with fail;go_ret
 exact ⟨rfl,HB2.o⟩
def IdxPost (w:World) (p:Bool) (e:Ending) (w':World):Prop:=∃ z:Int,e=.returned (.int .i64 z)∧decide (0≤z)=p∧Below w.heap.size w w'
def AllW (W:World) (l:List Cnd) (val:Nat→Nat × Nat) (i:Value) (wr:World):Prop:=∃ k:Nat,k≤l.length∧i=.int .i64 k∧(l.take k).all (condV val)=true∧Below W.heap.size W wr
def NoneW (W:World) (r:Rl) (val:Nat→Nat × Nat) (i:Value) (wr:World):Prop:=∃ k:Nat,k≤r.length∧i=.int .i64 k∧((r.take k).any fun l=>l.all (condV val))=false∧Below W.heap.size W wr
def OkL (l:List Cnd):Prop:=l.length≤1000∧∀ c ∈ l,Valid c∧SmallC c
def OkR (r:Rl):Prop:=r.length≤1000∧∀ l ∈ r,OkL l
theorem index_1 (w:World) (A:Option Addr) (n c g:Nat) (l:List Cnd) (val:Nat→Nat × Nat) (h:CondsIs w A n c l) (hs:OkL l) (ho:OpV w g val) :
  Calls Tryz.prog 91 #[.slice A n c,.func (Fn.func 56) #[] #[.pointer (some ⟨g,0,none⟩)]] w (IdxPost w (!l.all (condV val))):=by
 obtain rfl:n=l.length:=h.len;have HX:=qh h;have HS:=qh hs;have HO:=qh ho;have hl:=hs.1;have hlI:(l.length:Int)≤1000:=by omega
 clear h hs ho;go_enter Tryz.func91,Tryz.ntmps91;go_wp2_with fail;go_loopw [8] (fun i wr=>AllW w l val i wr) (fun i _=>l.length - (intOf i).toNat)
 case atStart=>exact ⟨0,Nat.zero_le _,rfl,rfl,Below.refl _ _⟩
 case round =>
  obtain ⟨k,hk,rfl,ht,hb⟩:=hrel;have HT:=qh ht;have HBR:=qh hb;clear ht hb;by_cases hlt:k<l.length
  ·obtain ⟨b,o,hA,hc⟩:=(HX.o.below HBR.o ql).at (by omega);subst hA;obtain ⟨x,hx⟩:∃ x,l[k]?=some x:=⟨l[k],List.getElem?_eq_getElem hlt⟩;obtain ⟨FA,fn,fc,TA,tn,tc,hF,hT,c0,c1,c2,c3,c4⟩:=hc k x hx;have htk:(l.take (k+1)).all (condV val)=((l.take k).all (condV val) && condV val x):=by rw [List.take_add_one,hx];simp
   have HTK:=qh htk;have HXX:=qh hx;have HV:=qh (HS.o.2 x (List.mem_of_getElem? hx));have HF:=qh hF;have HTT:=qh hT;have hkI:(k:Int)<(l.length:Int):=by omega
   have hk0:(0:Int)≤(k:Int):=by omega
   clear hc hx hF hT htk;go_wp2_with fail;refine (holds_11 wr x FA TA fn fc tn tc g val HF.o HTT.o HV.o.1 HV.o.2 (HO.o.below HBR.o)).mono ?_;rintro e w5 ⟨rfl,hb5⟩;have HB5:=qt HBR hb5;clear hb5 c0 c1 c2 c3 c4;cases hcv:condV val x
   ·have HCV:=qh hcv;clear hcv;dsimp only;go_wp2_with fail;go_ret
    refine ⟨(k:Int),rfl,?_,HB5.o⟩
    have:l.all (condV val)=false:=by
     rw [List.all_eq_false];exact ⟨x,List.mem_of_getElem? HXX.o,by rw [HCV.o];simp⟩
    rw [this];simp
   ·have HCV:=qh hcv;clear hcv;dsimp only;go_wp2_with fail;go_roundw
    case rel=>exact ⟨k+1,by omega,by go_num,by rw [HTK.o,HT.o,HCV.o];rfl,HB5.o⟩
    case measure=>simp [intOf];omega
  ·have hkI:¬ (k:Int)<(l.length:Int):=by omega
   have he:l.all (condV val)=true:=by have:=HT.o;rw [List.take_of_length_le (by omega)] at this;exact this
   have HE:=qh he;clear he;go_wp2_with fail;go_ret
   exact ⟨-1,rfl,by rw [HE.o];rfl,HBR.o⟩
theorem contains_1 (w:World) (A:Option Addr) (n c g:Nat) (l:List Cnd) (val:Nat→Nat × Nat) (h:CondsIs w A n c l) (hs:OkL l) (ho:OpV w g val) :
  Calls Tryz.prog 55 #[.slice A n c,.func (Fn.func 56) #[] #[.pointer (some ⟨g,0,none⟩)]] w fun e w'=>e=.returned (.bool (!l.all (condV val)))∧Below w.heap.size w w':=by
 have HC:=qh (index_1 w A n c g l val h hs ho);clear h hs ho;go_enter Tryz.func55,Tryz.ntmps55;go_wp2_with fail;refine HC.o.mono ?_;rintro e w1 ⟨z,rfl,hz,hb⟩;have HB:=qh hb;have HZ:=qh hz;clear hb HC hz;dsimp only;go_wp2_with fail;go_ret
 exact ⟨by rw [← HZ.o];rfl,HB.o⟩
theorem holds_1 (w:World) (A:Option Addr) (n c g:Nat) (l:List Cnd) (val:Nat→Nat × Nat) (h:CondsIs w A n c l) (hs:OkL l) (ho:OpV w g val) :
  Calls Tryz.prog 54 #[.slice A n c,.pointer (some ⟨g,0,none⟩)] w fun e w'=>e=.returned (.bool (l.all (condV val)))∧Below w.heap.size w w':=by
 have HC:=qh (contains_1 w A n c g l val h hs ho);clear h hs ho;have hmf:∀ (fn:Fn) (first cap:Array Value) (w:World),(Instr.makeFunc fn first cap).run Tryz.prog w=.ok (.func fn first cap) w:=fun _ _ _ _=>rfl;go_enter Tryz.func54,Tryz.ntmps54;go_wp2_with fail;refine HC.o.mono ?_;rintro e w1 ⟨rfl,hb⟩;have HB:=qh hb;clear hb HC;dsimp only;go_wp2_with fail;go_ret
 exact ⟨by simp,HB.o⟩
theorem index_2 (w:World) (A:Option Addr) (n c g:Nat) (r:Rl) (val:Nat→Nat × Nat) (h:RuleIs w A n c r) (hs:OkR r) (ho:OpV w g val) :
  Calls Tryz.prog 90 #[.slice A n c,.func (Fn.func 54) #[] #[.pointer (some ⟨g,0,none⟩)]] w (IdxPost w (anyV val r)):=by
 obtain rfl:n=r.length:=h.len;have HX:=qh h;have HS:=qh hs;have HO:=qh ho;have hl:=hs.1;have hlI:(r.length:Int)≤1000:=by omega
 clear h hs ho;go_enter Tryz.func90,Tryz.ntmps90;go_wp2_with fail;go_loopw [8] (fun i wr=>NoneW w r val i wr) (fun i _=>r.length - (intOf i).toNat)
 case atStart=>exact ⟨0,Nat.zero_le _,rfl,rfl,Below.refl _ _⟩
 case round =>
  obtain ⟨k,hk,rfl,ht,hb⟩:=hrel;have HT:=qh ht;have HBR:=qh hb;clear ht hb;by_cases hlt:k<r.length
  ·obtain ⟨b,o,hA,hc⟩:=(HX.o.below HBR.o ql).at (by omega);subst hA;obtain ⟨x,hx⟩:∃ x,r[k]?=some x:=⟨r[k],List.getElem?_eq_getElem hlt⟩;obtain ⟨xA,xn,xc,c0,hX⟩:=hc k x hx;have htk:((r.take (k+1)).any fun l=>l.all (condV val))=(((r.take k).any fun l=>l.all (condV val)) || x.all (condV val)):=by rw [List.take_add_one,hx];simp
   have HTK:=qh htk;have HXX:=qh hx;have HV:=qh (HS.o.2 x (List.mem_of_getElem? hx));have HF:=qh hX;have hkI:(k:Int)<(r.length:Int):=by omega
   have hk0:(0:Int)≤(k:Int):=by omega
   clear hc hx hX htk;go_wp2_with fail;refine (holds_1 wr xA xn xc g x val HF.o HV.o (HO.o.below HBR.o)).mono ?_;rintro e w5 ⟨rfl,hb5⟩;have HB5:=qt HBR hb5;clear hb5 c0;cases hcv:x.all (condV val)
   ·have HCV:=qh hcv;clear hcv;dsimp only;go_wp2_with fail;go_roundw
    case rel=>exact ⟨k+1,by omega,by go_num,by rw [HTK.o,HT.o,HCV.o];rfl,HB5.o⟩
    case measure=>simp [intOf];omega
   ·have HCV:=qh hcv;clear hcv;dsimp only;go_wp2_with fail;go_ret
    refine ⟨(k:Int),rfl,?_,HB5.o⟩;have:anyV val r=true:=List.any_eq_true.2 ⟨x,List.mem_of_getElem? HXX.o,HCV.o⟩;rw [this];simp
  ·have hkI:¬ (k:Int)<(r.length:Int):=by omega
   have he:anyV val r=false:=by have:=HT.o;rw [List.take_of_length_le (by omega)] at this;exact this
   have HE:=qh he;clear he;go_wp2_with fail;go_ret
   exact ⟨-1,rfl,by rw [HE.o];rfl,HBR.o⟩
theorem contains_2 (w:World) (A:Option Addr) (n c g:Nat) (r:Rl) (val:Nat→Nat × Nat) (h:RuleIs w A n c r) (hs:OkR r) (ho:OpV w g val) :
  Calls Tryz.prog 53 #[.slice A n c,.func (Fn.func 54) #[] #[.pointer (some ⟨g,0,none⟩)]] w fun e w'=>e=.returned (.bool (anyV val r))∧Below w.heap.size w w':=by
 have HC:=qh (index_2 w A n c g r val h hs ho);clear h hs ho;go_enter Tryz.func53,Tryz.ntmps53;go_wp2_with fail;refine HC.o.mono ?_;rintro e w1 ⟨z,rfl,hz,hb⟩;have HB:=qh hb;have HZ:=qh hz;clear hb HC hz;dsimp only;go_wp2_with fail;go_ret
 exact ⟨by rw [← HZ.o];rfl,HB.o⟩
theorem okR_good {r:Rl} (h:goodR r=true):OkR r:=by
 have h1:=smallR_good h;have h2:=goodR_valid h;exact ⟨h1.len,fun l hl=>⟨(h1.rows l hl).1,fun c hc=>⟨(h2.rows l hl).2 c hc,(h1.rows l hl).2 c hc⟩⟩⟩
theorem rule_Holds (w:World) (RA:Option Addr) (rn rc:Nat) (r:Rl) (hG:GW w) (hr:RuleIs w RA rn rc r) (hs:SmallR r)
  (b:Bool) (A A' iA fA tA:Option Addr) (n c n' c' il ic fl fc tl tc k s m i v u f t:Nat) (ho:OpR w b A n c A' n' c' iA il ic fA fl fc tA tl tc k s m i v u f t) (h63:63≤m) (h40:m≤40000) :
  Calls Tryz.prog 16 #[.agg #[.slice RA rn rc],.agg #[.bool b,.slice A n c,.slice A' n' c',.slice iA il ic,.int .i64 (v:Nat),.int .i64 (u:Nat),.slice fA fl fc,.slice tA tl tc]] w fun e w'=>e=.returned (.bool (holdsV (opVal k s i v u f t) r))∧Below w.heap.size w w':=by
 have HG:=qh hG;have HX:=qh hr;have HS:=qh hs;have HO:=qh ho;have hmf:∀ (fn:Fn) (first cap:Array Value) (w:World),(Instr.makeFunc fn first cap).run Tryz.prog w=.ok (.func fn first cap) w:=fun _ _ _ _=>rfl;obtain ⟨val,hval⟩:∃ val,opVal k s i v u f t=val:=⟨_,rfl⟩;rw [hval];have HVAL:=qh hval;clear hG hr hs ho hval;go_enter Tryz.func16,Tryz.ntmps16;go_upto_region 1 with fail;refine wp_letter (fun w1=>Blk w1 w.heap.size 30 [.slice RA rn rc]∧Blk w1 (w.heap.size+1) 39 [.bool b,.slice A n c,.slice A' n' c',.slice iA il ic,.int .i64 (v:Nat),.int .i64 (u:Nat),.slice fA fl fc,.slice tA tl tc]∧Below w.heap.size w w1) ⟨(Blk.made _ 30 _ _ _ rfl rfl).alloc _,Blk.made _ 39 _ _ _ (by simp) rfl,((Below.refl _ _).alloc ql _).alloc (by simp) _⟩ ?_;rintro w1 ⟨b0,b1,hb⟩;have B0:=qh b0;have HB:=qh hb;have HOV:Hid (OpV w1 (w.heap.size+1) val):=⟨b,A,n,c,A',n',c',iA,il,ic,fA,fl,fc,tA,tl,tc,k,s,m,i,v,u,f,t,b1,HO.o.below hb ql,h63,h40,HVAL.o.symm⟩;have k0:=b0.c1;clear b0 b1 hb;go_wp2_with fail;refine (rule_Good w1 RA rn rc r (HG.o.below HB.o ql) (HX.o.below HB.o ql) HS.o).mono ?_;rintro e w2 ⟨rfl,hb2⟩;have HB2:=qt HB hb2;have B2:=qh (B0.o.below hb2 B0.o.lt);have HOV2:=qh (HOV.o.below hb2);have k2:=B2.o.c1;clear hb2 k0 B0 HB HOV;rcases Bool.eq_false_or_eq_true (goodR r) with hg|hg
 ·rw [hg];have HGD:=qh hg;clear hg;dsimp only;go_wp2_with fail;refine (contains_2 w2 RA rn rc (w.heap.size+1) r val (HX.o.below HB2.o ql) (okR_good HGD.o) HOV2.o).mono ?_;rintro e w3 ⟨rfl,hb3⟩;have HB3:=qt HB2 hb3;clear hb3 k2;dsimp only;go_wp2_with fail;go_ret
  exact ⟨by simp [holdsV,HGD.o],HB3.o⟩
 ·rw [hg];have HGD:=qh hg;clear hg;dsimp only;go_wp2_with fail;go_ret
  exact ⟨by simp [holdsV,HGD.o],HB2.o⟩
theorem both_text (k sc:Nat):(if (Lib.decDigits k).length<sc+1 then List.replicate (sc+1 - (Lib.decDigits k).length) 48 ++ Lib.decDigits k else Lib.decDigits k)=Lib.decDigits (k / 10 ^ sc) ++ padD sc (k % 10 ^ sc):=by
 have hp:0<10 ^ sc:=Nat.pow_pos (by omega);have hr:k % 10 ^ sc<10 ^ sc:=Nat.mod_lt _ hp;have hk:=Nat.div_add_mod k (10 ^ sc);rw [Nat.mul_comm] at hk;rcases Nat.eq_zero_or_pos (k / 10 ^ sc) with hq|hq
 ·rw [hq] at hk ⊢;have hkr:k % 10 ^ sc=k:=by omega
  rw [hkr] at hr ⊢;rw [Lib.decDigits_one (by omega:0<10)];rcases Nat.eq_zero_or_pos sc with h0|h0
  ·subst h0;obtain rfl:k=0:=by simpa using hr
   rw [Lib.decDigits_one (by omega)];simp [padD]
  ·obtain ⟨h1,h2⟩:=padD_eq sc k hr h0;rw [if_pos (by omega),h2,show sc+1 - (Lib.decDigits k).length=(sc - (Lib.decDigits k).length)+1 by omega,List.replicate_succ]
   rfl
 ·have h1:=decDigits_pad sc (k / 10 ^ sc) (k % 10 ^ sc) hq hr;rw [hk] at h1;have h2:0<(Lib.decDigits (k / 10 ^ sc)).length:=List.length_pos_iff.2 (decDigits_ne _);rw [h1,if_neg (by rw [List.length_append,padD_len];omega)]
theorem digits_len {k m:Nat} (h:k<2 ^ m):(Lib.decDigits k).length≤m+1 :=
 (padD_eq (m+1) k (Nat.lt_of_lt_of_le h (Nat.le_trans (Nat.pow_le_pow_left (by omega) m) (Nat.pow_le_pow_right (by omega) (by omega)))) (by omega)).1
theorem dec_both (w:World) (b:Bool) (A:Option Addr) (n c k sc m:Nat) (hG:GW w) (h:SN w A n c k) (hk:k<2 ^ m) (hm:m≤100000) (hs:sc≤60) :
  Calls Tryz.prog 84 #[.agg #[.bool b,.slice A n c,.int .i64 sc]] w fun e w'=>e=.returned (.tuple #[.string ⟨(Lib.decDigits (k / 10 ^ sc)).toArray⟩,.string ⟨(padD sc (k % 10 ^ sc)).toArray⟩])∧Below w.heap.size w w':=by
 have HG:=qh hG;have HX:=qh h;have HK:=qh hk;have HT:=qh (both_text k sc);have hdl:=digits_len hk;have hd0:0<(Lib.decDigits k).length:=List.length_pos_iff.2 (decDigits_ne _);have hsI:(sc:Int)≤60:=by omega
 have hpl:=padD_len sc (k % 10 ^ sc);clear hG h hk;go_enter Tryz.func84,Tryz.ntmps84;go_upto_region 1 with fail;refine wp_letter (fun w1=>Blk w1 w.heap.size 26 [.bool b,.slice A n c,.int .i64 sc]∧Below w.heap.size w w1) ⟨Blk.made _ 26 _ _ _ rfl rfl,(Below.refl _ _).alloc ql _⟩ ?_;rintro w1 ⟨b0,hb⟩;have HB:=qh hb;have HX1:=qh (HX.o.below hb ql);have B0:=qh b0;obtain ⟨-,k1⟩:=b0.c2;clear b0 hb;go_wp2_with fail;refine (nat_Text w1 A n c k m (HG.o.below HB.o ql) HX1.o HK.o hm).mono ?_;rintro e w2 ⟨rfl,hb2⟩;have B2:=qh (B0.o.below hb2 B0.o.lt);have HB2:=qt HB hb2;obtain ⟨-,-,k2⟩:=B2.o.c3;generalize hD:Lib.decDigits k=D at *
 generalize hH:Lib.decDigits (k / 10 ^ sc)=H at *
 generalize hP:padD sc (k % 10 ^ sc)=P at *
 have HD:=qh hD;have HH:=qh hH;have HPP:=qh hP;clear hb2 k1 hD hH hP B0 HB;have hDI:(D.length:Int)≤100001:=by omega
 dsimp only;by_cases hl:D.length<sc+1
 ·have hI:(0:Int)<(sc:Int)+1 - (D.length:Int):=by omega
  have HT':Hid (List.replicate (sc+1 - D.length) 48 ++ D=H ++ P):=by have:=HT.o;rw [if_pos hl] at this;exact this
  go_wp2_with fail;rw [show ((sc:Int)+1 - (D.length:Int))=((sc+1 - D.length:Nat):Int) by omega];refine (Tryz.strings_Repeat ⟨#[48]⟩ (sc+1 - D.length) w2 (by omega) (by show 1 * (sc+1 - D.length)≤_;omega)).mono ?_;rw [show (⟨#[48]⟩:ByteArray).data.toList=[48] from rfl,repeat_zero];rintro e w3 ⟨rfl,hb3⟩;have hrl:(List.replicate (sc+1 - D.length) (48:UInt8)).length≤61:=by simp;omega
  generalize List.replicate (sc+1 - D.length) (48:UInt8)=R at *
  have HB3:=qt HB2 hb3;have B3:=qh (B2.o.below hb3 B2.o.lt);clear hb3 k2 hI;obtain ⟨-,-,k2⟩:=B3.o.c3;generalize sc+1 - D.length=N9;dsimp only;go_upto_region 5 with fail;rw [ba_app,HT'.o];obtain ⟨T,hTe⟩:∃ T,T=H ++ P:=⟨_,rfl⟩;have htl:T.length=H.length+sc:=by rw [hTe,List.length_append,hpl]
  have e1:(T.length:Int) - (sc:Int)=(H.length:Int):=by omega
  have hHT:(H.length:Int)≤(T.length:Int):=by omega
  have hTlen:T.length≤100100:=by rw [hTe,← HT'.o];rw [List.length_append];omega
  have hw:IntKind.i64.wrap (H.length:Int)=(H.length:Int):=by simp [IntKind.wrap,IntKind.bits,IntKind.signed];omega
  rw [← hTe];have HTE:=qh hTe;clear hTe htl;go_quiet (fail);have eT:T.take H.length=H:=by rw [HTE.o];simp
  have eP:T.drop H.length=P:=by rw [HTE.o];simp
  rw [ba_take,ba_drop _ _ _ ql,eT,eP];have HB4:=qh (below_drewN HB3.o nq);clear eT eP e1 hw hHT;go_step;go_wp2_with fail;go_ret2
  exact ⟨by rw [HH.o,HPP.o];rfl,HB4.o⟩
 ·have hI:¬ (0:Int)<(sc:Int)+1 - (D.length:Int):=by omega
  have HT':Hid (D=H ++ P):=by have:=HT.o;rw [if_neg hl] at this;exact this
  have B3:=B2;have HB3:=HB2;go_upto_region 5 with fail;obtain ⟨D0,hD0⟩:∃ D0,D0=D.length:=⟨_,rfl⟩;rw [← hD0];rw [HT'.o];obtain ⟨T,hTe⟩:∃ T,T=H ++ P:=⟨_,rfl⟩;have htl:T.length=H.length+sc:=by rw [hTe,List.length_append,hpl]
  have e1:(T.length:Int) - (sc:Int)=(H.length:Int):=by omega
  have hHT:(H.length:Int)≤(T.length:Int):=by omega
  have hTlen:T.length≤100100:=by rw [hTe,← HT'.o];omega
  have hw:IntKind.i64.wrap (H.length:Int)=(H.length:Int):=by simp [IntKind.wrap,IntKind.bits,IntKind.signed];omega
  rw [← hTe];have HTE:=qh hTe;clear hTe htl;go_quiet (fail);have eT:T.take H.length=H:=by rw [HTE.o];simp
  have eP:T.drop H.length=P:=by rw [HTE.o];simp
  rw [ba_take,ba_drop _ _ _ ql,eT,eP];have HB4:=qh (below_drewN HB3.o nq);clear eT eP e1 hw hHT;go_step;go_wp2_with fail;go_ret2
  exact ⟨by rw [HH.o,HPP.o];rfl,HB4.o⟩
theorem dec_Part (w:World) (A:Option Addr) (n c k sc m:Nat) (hG:GW w) (h:SN w A n c k) (hk:k<2 ^ m) (hm:m≤100000) (hs:sc≤60) :
  Calls Tryz.prog 48 #[.agg #[.bool false,.slice A n c,.int .i64 sc]] w fun e w'=>e=.returned (.string ⟨(padD sc (k % 10 ^ sc)).toArray⟩)∧Below w.heap.size w w':=by
 have HG:=qh hG;have HX:=qh h;have HK:=qh hk;clear hG h hk;go_enter Tryz.func48,Tryz.ntmps48;go_upto_region 1 with fail;refine wp_letter (fun w1=>Blk w1 w.heap.size 26 [.bool false,.slice A n c,.int .i64 sc]∧Below w.heap.size w w1) ⟨Blk.made _ 26 _ _ _ rfl rfl,(Below.refl _ _).alloc ql _⟩ ?_;rintro w1 ⟨b0,hb⟩;have HB:=qh hb;have HX1:=qh (HX.o.below hb ql);obtain ⟨k0,k1,k2⟩:=b0.c3;clear b0 hb;go_wp2_with fail;refine (dec_plain w1 false A n c k sc HX1.o (big_pow HK.o (by omega)) hs (by simp)).mono ?_;rintro e w2 ⟨⟨A2,n2,c2,rfl,h2⟩,hb2⟩;have HX2:=qh h2;have HB2:=qt HB hb2;clear h2 hb2 k0 k1 k2;dsimp only;go_wp2_with fail;refine (dec_both w2 false A2 n2 c2 k sc m (HG.o.below HB2.o ql) HX2.o HK.o hm hs).mono ?_;rintro e w3 ⟨rfl,hb3⟩;have HB3:=qt HB2 hb3;generalize hP:padD sc (k % 10 ^ sc)=P at *
 have HP:=qh hP;clear hb3 hP;dsimp only;go_wp2_with fail;go_ret
 exact ⟨by rw [HP.o];rfl,HB3.o⟩
theorem oper_number (w:World) (s:Bs) (hG:GW w) (hs:s.length≤100000) :
  Calls Tryz.prog 52 #[.string ⟨s.toArray⟩] w fun e w'=>RetN e w' (nval s)∧Below w.heap.size w w':=by
 have HG:=qh hG;clear hG;go_enter Tryz.func52,Tryz.ntmps52;go_upto_region 1 with fail;refine wp_letter (fun w1=>Blk w1 w.heap.size 24 [.slice none 0 0]∧Below w.heap.size w w1) ⟨Blk.made _ 24 _ _ _ rfl rfl,(Below.refl _ _).alloc ql _⟩ ?_;rintro w1 ⟨b0,hb⟩;have HB:=qh hb;have B0:=qh b0;clear b0 hb;go_wp2_with fail;refine (nat_Parse w1 s (HG.o.below HB.o ql) hs).mono ?_;rintro e w2 ⟨⟨A,n,c,rfl,h2⟩,hb2⟩;have HX:=qh h2;have HB2:=qt HB hb2;have B2:=qh (B0.o.below hb2 B0.o.lt);clear h2 hb2 B0 HB;dsimp only;have b3:=B2.o.alloc (.cells #[.slice A n c] 24);obtain ⟨k3,f3⟩:=b3.cf1;have hlt:=B2.o.lt;have q1:=(B2.o.put 0 (.slice A n c)).alloc (.cells #[.slice A n c] 24);have x2:=rn_set HX.o B2.o (by simp) 0 (.slice A n c);have q2:=x2.below ((Below.refl _ _).alloc ql (.cells #[.slice A n c] 24)) ql;have h3:=below_set HB2.o w.heap.size 0 ql (.slice A n c);have q3:=h3.alloc h3.size (.cells #[.slice A n c] 24);have q0:=q1.cell 0;simp only [M0,M2] at q0;have hne:w.heap.size≠w2.heap.size:=by omega
 have Q2:=qh q2;have Q3:=qh q3;have Q0:=qh q0;clear q1 x2 q2 h3 q3 q0;go_wp2_with fail;have q0:=Q0.o;have q2:=Q2.o;have q3:=Q3.o;generalize (w2.setCell ⟨w.heap.size,0,none⟩ (.slice A n c)).alloc (.cells #[.slice A n c] 24)=wf at *
 refine bodyPost_ret (v:=.agg #[.slice A n c]) (by simp [results,Tryz.results52,go_sem,q0];try rfl) rfl ?_;exact ⟨⟨A,n,c,rfl,q2⟩,q3⟩
theorem list8 {α:Type} {l:List α} (h:l.length=8):∃ a b c d e f g i,l=[a,b,c,d,e,f,g,i]:=by
 match l,h with
 | [a,b,c,d,e,f,g,i],_=>exact ⟨a,b,c,d,e,f,g,i,rfl⟩
theorem Hold.fill8 {W w:World} {g:Nat} {t:TypeId} (hh:Hold W g t 8 w) (a b c d e f h i:Value):Blk ((((((((w.setCell ⟨g,0,none⟩ a).setCell ⟨g,1,none⟩ b).setCell ⟨g,2,none⟩ c).setCell ⟨g,3,none⟩ d).setCell ⟨g,4,none⟩ e).setCell ⟨g,5,none⟩ f).setCell ⟨g,6,none⟩ h).setCell ⟨g,7,none⟩ i) g t [a,b,c,d,e,f,h,i]:=by
 obtain ⟨-,-,⟨l,h3,h4,-⟩,-⟩:=hh;obtain ⟨x0,x1,x2,x3,x4,x5,x6,x7,rfl⟩:=list8 h3;have q:=(((((((h4.put 0 a).put 1 b).put 2 c).put 3 d).put 4 e).put 5 f).put 6 h).put 7 i;simpa only [M0,M1] using q
theorem short_le:∀ (s k:Nat),(short k s).2≤s∧(short k s).1≤k
 | 0,k=>⟨ql,ql⟩
 | s+1,k=>by
  unfold short;split
  ·have:=short_le s (k / 10);exact ⟨by omega,Nat.le_trans this.2 (Nat.div_le_self _ _)⟩
  ·exact ⟨ql,ql⟩
theorem nval_padD {j r:Nat} (h:r<10 ^ j):nval (padD j r)=r:=by
 rcases Nat.eq_zero_or_pos j with h0|h0
 ·subst h0;have:r=0:=by simpa using h
  subst this;rfl
 ·have hd:isNum (padD j r)=true:=by
   unfold isNum;refine decide_eq_true ⟨fun e=>?_,?_⟩
   ·have:=padD_len j r;rw [e] at this;simp at this;omega
   ·rw [(padD_eq j r h h0).2];intro b hb;rcases List.mem_append.1 hb with hb|hb
    ·rw [List.mem_replicate] at hb;rw [hb.2];rfl
    ·exact decDigits_dig r b hb
  unfold nval;rw [if_pos hd,decFrom_padD j r 0 h];simp
def decK (b:Bool) (l:List Nat) (sc:Int):Nat:=if goodD b l sc then val l else 0
def decS (b:Bool) (l:List Nat) (sc:Int):Nat:=if goodD b l sc then sc.toNat else 0
def OfR (e:Ending) (w':World) (k s m:Nat):Prop :=
 ∃ b A n c A' n' c' iA il ic fA fl fc tA tl tc,e=.returned (.agg #[.bool b,.slice A n c,.slice A' n' c',.slice iA il ic,.int .i64 (s:Nat),.int .i64 ((short k s).2:Nat),.slice fA fl fc,.slice tA tl tc]) ∧
  OpR w' b A n c A' n' c' iA il ic fA fl fc tA tl tc k (10 ^ s) m (k / 10 ^ s) s (short k s).2 (k % 10 ^ s) ((short k s).1 % 10 ^ (short k s).2)
def ofVal (k s:Nat):Nat→Nat × Nat:=opVal k (10 ^ s) (k / 10 ^ s) s (short k s).2 (k % 10 ^ s) ((short k s).1 % 10 ^ (short k s).2)
def OfI (W:World) (g:Nat) (K S:Nat) (wx:World):Prop :=
 ∃ b A n c,Blk wx g 26 [.bool b,.slice A n c,.int .i64 (S:Nat)]∧Blk wx (g+1) 39 [.bool false,.slice none 0 0,.slice none 0 0,.slice none 0 0,.int .i64 0,.int .i64 0,.slice none 0 0,.slice none 0 0]∧SN wx A n c K∧Below g W wx
theorem oper_Of (w:World) (b:Bool) (A:Option Addr) (n c:Nat) (l:List Nat) (sc:Int) (m:Nat) (hG:GW w) (h:RL w (.slice A n c) l) (hl:l.length≤1000000) (hk:decK b l sc<2 ^ m) (hm:200≤m) (hm2:m≤40000) :
  Calls Tryz.prog 15 #[.agg #[.bool b,.slice A n c,.int .i64 sc]] w fun e w'=>OfR e w' (decK b l sc) (decS b l sc) m∧Below w.heap.size w w':=by
 have HG:=qh hG;have HX:=qh h;have HK:=qh hk;have HM:=qh hm;have HM2:=qh hm2
 have HS:Hid (decS b l sc≤60):=by
  show decS b l sc≤60;unfold decS goodD;split
  ·rename_i hg;simp at hg;omega
  ·omega
 have HC:Hid (goodD b l sc=true→(sc=(decS b l sc:Nat))∧SN w A n c (decK b l sc)):=fun hg=>by
  unfold decS decK;rw [if_pos hg,if_pos hg];have hg':=hg;unfold goodD at hg';simp at hg';refine ⟨by omega,?_⟩;unfold SN RN;rw [goodL_words h.2 hg'.1];exact h
 have HD:Hid (goodD b l sc=false→decS b l sc=0∧decK b l sc=0):=fun hg=>by unfold decS decK;rw [hg];exact ⟨rfl,rfl⟩
 clear h hk hm hm2 hG;generalize hKe:decK b l sc=KN at *
 generalize hSe:decS b l sc=S at *
 clear hKe hSe;go_enter Tryz.func15,Tryz.ntmps15;go_upto_region 1 with fail;refine wp_letter (fun w1=>Blk w1 w.heap.size 26 [.bool b,.slice A n c,.int .i64 sc]∧Blk w1 (w.heap.size+1) 39 [.bool false,.slice none 0 0,.slice none 0 0,.slice none 0 0,.int .i64 0,.int .i64 0,.slice none 0 0,.slice none 0 0]∧Below w.heap.size w w1) ⟨(Blk.made _ 26 _ _ _ rfl rfl).alloc _,Blk.made _ 39 _ _ _ (by simp) rfl,((Below.refl _ _).alloc ql _).alloc (by simp) _⟩ ?_;rintro w1 ⟨b0,b1,hb⟩;have B0:=qh b0;have B1:=qh b1;have HB:=qh hb;obtain ⟨k0,k1,k2⟩:=b0.c3;clear b0 b1 hb;go_wp2_with fail;refine (dec_Good w1 b A n c l sc (HX.o.below HB.o ql) hl).mono ?_;rintro e w2 ⟨rfl,hb2⟩;have C0:=qh (B0.o.below hb2 B0.o.lt);have C1:=qh (B1.o.below hb2 B1.o.lt);have HB2:=qt HB hb2;clear hb2 k0 k1 k2 B0 B1;dsimp only;go_upto_if 7 with fail;go_cut [] (fun wx=>OfI w w.heap.size KN S wx)
 case first =>
  rcases Bool.eq_false_or_eq_true (goodD b l sc) with hg|hg
  ·obtain ⟨h1,h2⟩:=HC.o hg;rw [hg];have hx:=qh (h2.below HB2.o ql);clear hg h2;go_wp2_with fail;go_meet
   exact ⟨b,A,n,c,by rw [← h1];exact C0.o,C1.o,hx.out,HB2.o⟩
  ·obtain ⟨h1,h2⟩:=HD.o hg;rw [hg];have H1:=qh h1;have H2:=qh h2;obtain ⟨k0,k1,k2,f0,f1,f2⟩:=C0.o.cf3;have hh:Hold w2 w.heap.size 26 3 w2:=Hold.start C0.o (by simp [No32]);have q:=hh.fill3 (.bool false) (.slice none 0 0) (.int .i64 0);have q1:=((C1.o.far ⟨w.heap.size,0,none⟩ (.bool false) (by simp)).far ⟨w.heap.size,1,none⟩ (.slice none 0 0) (by simp)).far ⟨w.heap.size,2,none⟩ (.int .i64 0) (by simp);have q2:=below_set (below_set (below_set HB2.o w.heap.size 0 ql (.bool false)) w.heap.size 1 ql (.slice none 0 0)) w.heap.size 2 ql (.int .i64 0);have Q:=qh q;have Q1:=qh q1;have Q2:=qh q2;clear hg h1 h2 q q1 q2 hh;go_wp2_with fail;go_meet
   exact ⟨false,none,0,0,by rw [H1.o];exact Q.o,Q1.o,by rw [H2.o];show RL _ _ (wordsOf 0);rw [wordsOf_zero];exact ⟨SlC.nil _ _ _ _,Wd.nil⟩,Q2.o⟩
 case rest =>
  obtain ⟨b1,A1,n1,c1,d0,d1,hx,hb⟩:=hcut;obtain ⟨k0,f0⟩:=d0.cf1;have q:=d0.put 0 (.bool false);have q1:=d1.far ⟨w.heap.size,0,none⟩ (.bool false) (by simp);have hh:Hold wc w.heap.size 26 3 wc:=Hold.start d0 (by simp [No32]);have q2:=hx.hset hh 0 (.bool false);have q3:=below_set hb w.heap.size 0 ql (.bool false);simp only [M0] at q;have Q0:=qh q;have Q1:=qh q1;have Q2:=qh q2;have Q3:=qh q3;clear d0 d1 hx hb q q1 q2 q3 hh C0 C1 HB2 HC HD;go_step;go_upto_region 4 with fail;refine wp_letter (fun w3=>Blk w3 w.heap.size 26 [.bool false,.slice A1 n1 c1,.int .i64 (S:Nat)]∧Blk w3 (w.heap.size+1) 39 [.bool false,.slice none 0 0,.slice none 0 0,.slice none 0 0,.int .i64 0,.int .i64 0,.slice none 0 0,.slice none 0 0]∧SN w3 A1 n1 c1 KN∧Below w.heap.size w w3) ⟨Q0.o,Q1.o,Q2.o,Q3.o⟩ ?_;clear Q0 Q1 Q2 Q3 f0 k0;rintro w3 ⟨d0,d1,hx,hb⟩;have D0:=qh d0;have D1:=qh d1;have HX3:=qh hx;have HB3:=qh hb;have HG3:=qh (HG.o.below hb ql);obtain ⟨k0,k1,k2⟩:=d0.c3;clear d0 d1 hx hb;have hm2:=HM2.o;have hSS:=HS.o;go_wp2_with fail;refine (dec_Part w3 A1 n1 c1 KN S m HG3.o HX3.o HK.o (by omega) hSS).mono ?_;rintro e w4 ⟨rfl,hb4⟩;have D0':=qh (D0.o.below hb4 D0.o.lt);have D1':=qh (D1.o.below hb4 D1.o.lt);have HX4:=qh (HX3.o.below hb4 ql);have HB4:=qt HB3 hb4;have HG4:=qh (HG3.o.below hb4 ql);clear k0 k1 k2 hb4 D0 D1 HX3 HB3 HG3;obtain ⟨k0,k1,k2⟩:=D0'.o.c3;have hpl:=padD_len S (KN % 10 ^ S);generalize hPP:padD S (KN % 10 ^ S)=P1 at *
  have HP1:=qh hPP;clear hPP;dsimp only;go_wp2_with fail;refine (dec_Short w4 A1 n1 c1 KN S HX4.o m HK.o HM.o (by omega) hSS).mono ?_;rintro e w5 ⟨⟨A5,n5,c5,rfl,hx5⟩,hb5⟩;have D0:=qh (D0'.o.below hb5 D0'.o.lt);have D1:=qh (D1'.o.below hb5 D1'.o.lt);have HX5:=qh (HX4.o.below hb5 ql);have HS5:=qh hx5;have HB5:=qt HB4 hb5;have HG5:=qh (HG4.o.below hb5 ql);clear k0 k1 k2 hx5 hb5 D0' D1' HX4 HB4 HG4;have hsl:=short_le S KN;have HSL:=qh hsl;dsimp only;generalize hK2:(short KN S).1=K2 at *
  generalize hS2:(short KN S).2=S2 at *
  have HK2:=qh hK2;have HS2:=qh hS2;have hs2:S2≤60:=by omega
  clear hK2 hS2 hsl;go_wp2_with fail;refine (dec_Part w5 A5 n5 c5 K2 S2 m HG5.o HS5.o (Nat.lt_of_le_of_lt HSL.o.2 HK.o) (by omega) hs2).mono ?_;rintro e w6 ⟨rfl,hb6⟩;have E0:=qh (D0.o.below hb6 D0.o.lt);have E1:=qh (D1.o.below hb6 D1.o.lt);have HX6:=qh (HX5.o.below hb6 ql);have HB6:=qt HB5 hb6;have HG6:=qh (HG5.o.below hb6 ql);have hpl2:=padD_len S2 (K2 % 10 ^ S2);generalize hPP:padD S2 (K2 % 10 ^ S2)=P2 at *
  have HP2:=qh hPP;clear hPP hb6 D0 D1 HX5 HB5 HG5 HS5;dsimp only;go_upto_region 6 with fail
  have HF:Hid (∀ w',Below w6.heap.size w6 w'→w'.cell? ⟨w.heap.size,0,none⟩=some (.bool false)∧w'.cell? ⟨w.heap.size,1,none⟩=some (.slice A1 n1 c1)∧w'.cell? ⟨w.heap.size,2,none⟩=some (.int .i64 (S:Nat))):=fun w' h=>by
   have d:=E0.o.below h E0.o.lt;exact ⟨d.cell 0,d.cell 1,d.cell 2⟩
  refine wp_region_but (fun w'=>Below w6.heap.size w6 w') (by kernel_rfl) (by kernel_rfl) (Below.refl _ _).drew (fun hHeld=>?_);simp only [initL,lastL];have HB0:=qh hHeld;refine takeA (i:=0) ?_
  try simp only [Act.put,MT,M0,M1]
  refine takeA (i:=2) ?_
  try simp only [Act.put,MT,M0,M1]
  refine takeA (i:=4) ?_
  try simp only [Act.put,MT,M0,M1]
  refine takeA (i:=5) ?_
  try simp only [Act.put,MT,M0,M1]
  refine takeA (i:=6) ?_
  try simp only [Act.put,MT,M0,M1]
  refine takeA (i:=7) ?_
  try simp only [Act.put,MT,M0,M1]
  refine takeA (i:=8) ?_
  try simp only [Act.put,MT,M0,M1]
  refine takeA (i:=10) ?_
  try simp only [Act.put,MT,M0,M1]
  refine wpAnyH_ready (rs:=[1]) (by kernel_rfl) (by simp) ?_;refine consL rfl (fun K hK=>?_) AllReadyH.nil;go_simp;refine (dec_Rat _ A1 n1 c1 KN S (HX6.o.below HB0.o ql) m HK.o HM.o (by omega) hSS).mono ?_;rintro e w109 ⟨⟨b9,A9,n9,c9,B9,m9,d9,rfl,r⟩,hb⟩;have HB9:=qh (below_on HB0.o ql hb);have RR9:=qh r;clear r hb;dsimp only
  try clear hHeld
  refine hK.out _ _ (HB9.o) (fun hHeld=>?_);clear hK K
  try simp only [Act.put,MT,M0,M1]
  refine wpAnyH_ready (rs:=[3]) (by kernel_rfl) (by simp) ?_;refine consL rfl (fun K hK=>?_) AllReadyH.nil;go_simp;refine (dec_Whole _ A1 n1 c1 KN S (HX6.o.below HB9.o ql) m HK.o HM.o (by omega) hSS).mono ?_;rintro e w110 ⟨⟨A10,n10,c10,rfl,r⟩,hb⟩;have HB10:=qh (below_on HB9.o ql hb);have RRx10:=qh (RR9.o.below hb ql);have nn10:=qh r;clear r hb;dsimp only
  try clear hHeld
  refine hK.out _ _ (HB10.o) (fun hHeld=>?_);clear hK K
  try simp only [Act.put,MT,M0,M1]
  refine wpAnyH_ready (rs:=[9]) (by kernel_rfl) (by simp) ?_;refine consL rfl (fun K hK=>?_) AllReadyH.nil;go_simp;refine (oper_number _ P1 (HG6.o.below HB10.o ql) (by omega)).mono ?_;rintro e w111 ⟨⟨A11,n11,c11,rfl,r⟩,hb⟩;have HB11:=qh (below_on HB10.o ql hb);have RRx11:=qh (RRx10.o.below hb ql);have nn11:=qh (nn10.out.below hb ql);have ff11:=qh r;clear r hb;dsimp only
  try clear hHeld
  refine hK.out _ _ (HB11.o) (fun hHeld=>?_);clear hK K
  try simp only [Act.put,MT,M0,M1]
  refine wpAnyH_ready (rs:=[11]) (by kernel_rfl) (by simp) ?_;refine consL rfl (fun K hK=>?_) AllReadyH.nil;go_simp;refine (oper_number _ P2 (HG6.o.below HB11.o ql) (by omega)).mono ?_;rintro e w112 ⟨⟨A12,n12,c12,rfl,r⟩,hb⟩;have HB12:=qh (below_on HB11.o ql hb);have RRx12:=qh (RRx11.o.below hb ql);have nn12:=qh (nn11.out.below hb ql);have ff12:=qh (ff11.out.below hb ql);have tt12:=qh r;clear r hb;dsimp only
  try clear hHeld
  refine hK.out _ _ (HB12.o) (fun hHeld=>?_);clear hK K
  try simp only [Act.put,MT,M0,M1]
  refine takeA (i:=12) ?_
  try simp only [Act.put,MT,M0,M1]
  refine wpAnyH_done (by kernel_rfl) ?_ _;have G1:=qh (E1.o.below HB12.o E1.o.lt);have HBZ:=qh (HB6.o.trans (HB12.o.mono HB6.o.size));obtain ⟨k0,k1,k2,k3,k4,k5,k6,k7,f0,f1,f2,f3,f4,f5,f6,f7⟩:=G1.o.cf8;clear hHeld;unfold TailQ;go_wp2_with fail;have hm200:=HM.o;have hh:=(Hold.start G1.o (by simp [No32]));have hf:=hh.fill8 (.bool b9) (.slice A9 n9 c9) (.slice B9 m9 d9) (.slice A10 n10 c10) (.int .i64 (S:Nat)) (.int .i64 (S2:Nat)) (.slice A11 n11 c11) (.slice A12 n12 c12);have hg:=((((((((hh.set 0 (.bool b9) (by simp)).set 1 (.slice A9 n9 c9) (by simp)).set 2 (.slice B9 m9 d9) (by simp)).set 3 (.slice A10 n10 c10) (by simp)).set 4 (.int .i64 (S:Nat)) (by simp)).set 5 (.int .i64 (S2:Nat)) (by simp)).set 6 (.slice A11 n11 c11) (by simp)).set 7 (.slice A12 n12 c12) (by simp));have hnn:=((((((((nn12.out.hset hh 0 (.bool b9)).hset (hh.set 0 (.bool b9) (by simp)) 1 (.slice A9 n9 c9)).hset ((hh.set 0 (.bool b9) (by simp)).set 1 (.slice A9 n9 c9) (by simp)) 2 (.slice B9 m9 d9)).hset (((hh.set 0 (.bool b9) (by simp)).set 1 (.slice A9 n9 c9) (by simp)).set 2 (.slice B9 m9 d9) (by simp)) 3 (.slice A10 n10 c10)).hset ((((hh.set 0 (.bool b9) (by simp)).set 1 (.slice A9 n9 c9) (by simp)).set 2 (.slice B9 m9 d9) (by simp)).set 3 (.slice A10 n10 c10) (by simp)) 4 (.int .i64 (S:Nat))).hset (((((hh.set 0 (.bool b9) (by simp)).set 1 (.slice A9 n9 c9) (by simp)).set 2 (.slice B9 m9 d9) (by simp)).set 3 (.slice A10 n10 c10) (by simp)).set 4 (.int .i64 (S:Nat)) (by simp)) 5 (.int .i64 (S2:Nat))).hset ((((((hh.set 0 (.bool b9) (by simp)).set 1 (.slice A9 n9 c9) (by simp)).set 2 (.slice B9 m9 d9) (by simp)).set 3 (.slice A10 n10 c10) (by simp)).set 4 (.int .i64 (S:Nat)) (by simp)).set 5 (.int .i64 (S2:Nat)) (by simp)) 6 (.slice A11 n11 c11)).hset (((((((hh.set 0 (.bool b9) (by simp)).set 1 (.slice A9 n9 c9) (by simp)).set 2 (.slice B9 m9 d9) (by simp)).set 3 (.slice A10 n10 c10) (by simp)).set 4 (.int .i64 (S:Nat)) (by simp)).set 5 (.int .i64 (S2:Nat)) (by simp)).set 6 (.slice A11 n11 c11) (by simp)) 7 (.slice A12 n12 c12));have hff:=((((((((ff12.out.hset hh 0 (.bool b9)).hset (hh.set 0 (.bool b9) (by simp)) 1 (.slice A9 n9 c9)).hset ((hh.set 0 (.bool b9) (by simp)).set 1 (.slice A9 n9 c9) (by simp)) 2 (.slice B9 m9 d9)).hset (((hh.set 0 (.bool b9) (by simp)).set 1 (.slice A9 n9 c9) (by simp)).set 2 (.slice B9 m9 d9) (by simp)) 3 (.slice A10 n10 c10)).hset ((((hh.set 0 (.bool b9) (by simp)).set 1 (.slice A9 n9 c9) (by simp)).set 2 (.slice B9 m9 d9) (by simp)).set 3 (.slice A10 n10 c10) (by simp)) 4 (.int .i64 (S:Nat))).hset (((((hh.set 0 (.bool b9) (by simp)).set 1 (.slice A9 n9 c9) (by simp)).set 2 (.slice B9 m9 d9) (by simp)).set 3 (.slice A10 n10 c10) (by simp)).set 4 (.int .i64 (S:Nat)) (by simp)) 5 (.int .i64 (S2:Nat))).hset ((((((hh.set 0 (.bool b9) (by simp)).set 1 (.slice A9 n9 c9) (by simp)).set 2 (.slice B9 m9 d9) (by simp)).set 3 (.slice A10 n10 c10) (by simp)).set 4 (.int .i64 (S:Nat)) (by simp)).set 5 (.int .i64 (S2:Nat)) (by simp)) 6 (.slice A11 n11 c11)).hset (((((((hh.set 0 (.bool b9) (by simp)).set 1 (.slice A9 n9 c9) (by simp)).set 2 (.slice B9 m9 d9) (by simp)).set 3 (.slice A10 n10 c10) (by simp)).set 4 (.int .i64 (S:Nat)) (by simp)).set 5 (.int .i64 (S2:Nat)) (by simp)).set 6 (.slice A11 n11 c11) (by simp)) 7 (.slice A12 n12 c12));have htt:=((((((((tt12.out.hset hh 0 (.bool b9)).hset (hh.set 0 (.bool b9) (by simp)) 1 (.slice A9 n9 c9)).hset ((hh.set 0 (.bool b9) (by simp)).set 1 (.slice A9 n9 c9) (by simp)) 2 (.slice B9 m9 d9)).hset (((hh.set 0 (.bool b9) (by simp)).set 1 (.slice A9 n9 c9) (by simp)).set 2 (.slice B9 m9 d9) (by simp)) 3 (.slice A10 n10 c10)).hset ((((hh.set 0 (.bool b9) (by simp)).set 1 (.slice A9 n9 c9) (by simp)).set 2 (.slice B9 m9 d9) (by simp)).set 3 (.slice A10 n10 c10) (by simp)) 4 (.int .i64 (S:Nat))).hset (((((hh.set 0 (.bool b9) (by simp)).set 1 (.slice A9 n9 c9) (by simp)).set 2 (.slice B9 m9 d9) (by simp)).set 3 (.slice A10 n10 c10) (by simp)).set 4 (.int .i64 (S:Nat)) (by simp)) 5 (.int .i64 (S2:Nat))).hset ((((((hh.set 0 (.bool b9) (by simp)).set 1 (.slice A9 n9 c9) (by simp)).set 2 (.slice B9 m9 d9) (by simp)).set 3 (.slice A10 n10 c10) (by simp)).set 4 (.int .i64 (S:Nat)) (by simp)).set 5 (.int .i64 (S2:Nat)) (by simp)) 6 (.slice A11 n11 c11)).hset (((((((hh.set 0 (.bool b9) (by simp)).set 1 (.slice A9 n9 c9) (by simp)).set 2 (.slice B9 m9 d9) (by simp)).set 3 (.slice A10 n10 c10) (by simp)).set 4 (.int .i64 (S:Nat)) (by simp)).set 5 (.int .i64 (S2:Nat)) (by simp)).set 6 (.slice A11 n11 c11) (by simp)) 7 (.slice A12 n12 c12));have T:∀ {A0:Option Addr} {m0 c0 k0:Nat},SN w112 A0 m0 c0 k0→SN ((((((((w112.setCell ⟨w.heap.size+1,0,none⟩ (.bool b9)).setCell ⟨w.heap.size+1,1,none⟩ (.slice A9 n9 c9)).setCell ⟨w.heap.size+1,2,none⟩ (.slice B9 m9 d9)).setCell ⟨w.heap.size+1,3,none⟩ (.slice A10 n10 c10)).setCell ⟨w.heap.size+1,4,none⟩ (.int .i64 (S:Nat))).setCell ⟨w.heap.size+1,5,none⟩ (.int .i64 (S2:Nat))).setCell ⟨w.heap.size+1,6,none⟩ (.slice A11 n11 c11)).setCell ⟨w.heap.size+1,7,none⟩ (.slice A12 n12 c12)) A0 m0 c0 k0:=fun hs=>((((((((hs.hset hh 0 (.bool b9)).hset (hh.set 0 (.bool b9) (by simp)) 1 (.slice A9 n9 c9)).hset ((hh.set 0 (.bool b9) (by simp)).set 1 (.slice A9 n9 c9) (by simp)) 2 (.slice B9 m9 d9)).hset (((hh.set 0 (.bool b9) (by simp)).set 1 (.slice A9 n9 c9) (by simp)).set 2 (.slice B9 m9 d9) (by simp)) 3 (.slice A10 n10 c10)).hset ((((hh.set 0 (.bool b9) (by simp)).set 1 (.slice A9 n9 c9) (by simp)).set 2 (.slice B9 m9 d9) (by simp)).set 3 (.slice A10 n10 c10) (by simp)) 4 (.int .i64 (S:Nat))).hset (((((hh.set 0 (.bool b9) (by simp)).set 1 (.slice A9 n9 c9) (by simp)).set 2 (.slice B9 m9 d9) (by simp)).set 3 (.slice A10 n10 c10) (by simp)).set 4 (.int .i64 (S:Nat)) (by simp)) 5 (.int .i64 (S2:Nat))).hset ((((((hh.set 0 (.bool b9) (by simp)).set 1 (.slice A9 n9 c9) (by simp)).set 2 (.slice B9 m9 d9) (by simp)).set 3 (.slice A10 n10 c10) (by simp)).set 4 (.int .i64 (S:Nat)) (by simp)).set 5 (.int .i64 (S2:Nat)) (by simp)) 6 (.slice A11 n11 c11)).hset (((((((hh.set 0 (.bool b9) (by simp)).set 1 (.slice A9 n9 c9) (by simp)).set 2 (.slice B9 m9 d9) (by simp)).set 3 (.slice A10 n10 c10) (by simp)).set 4 (.int .i64 (S:Nat)) (by simp)).set 5 (.int .i64 (S2:Nat)) (by simp)).set 6 (.slice A11 n11 c11) (by simp)) 7 (.slice A12 n12 c12));obtain ⟨r0,r1,r2,r3,r4,r5,r6,r7⟩:=hf.c8;have hrr:=RRx12.o.map T;clear T;generalize ((((((((w112.setCell ⟨w.heap.size+1,0,none⟩ (.bool b9)).setCell ⟨w.heap.size+1,1,none⟩ (.slice A9 n9 c9)).setCell ⟨w.heap.size+1,2,none⟩ (.slice B9 m9 d9)).setCell ⟨w.heap.size+1,3,none⟩ (.slice A10 n10 c10)).setCell ⟨w.heap.size+1,4,none⟩ (.int .i64 (S:Nat))).setCell ⟨w.heap.size+1,5,none⟩ (.int .i64 (S2:Nat))).setCell ⟨w.heap.size+1,6,none⟩ (.slice A11 n11 c11)).setCell ⟨w.heap.size+1,7,none⟩ (.slice A12 n12 c12))=wf at *
  refine bodyPost_ret (v:=.agg #[.bool b9,.slice A9 n9 c9,.slice B9 m9 d9,.slice A10 n10 c10,.int .i64 (S:Nat),.int .i64 (S2:Nat),.slice A11 n11 c11,.slice A12 n12 c12]) (by simp [results,Tryz.results15,go_sem,r0,r1,r2,r3,r4,r5,r6,r7];try rfl) rfl ?_;exact by unfold OfR;rw [HK2.o,HS2.o];exact ⟨⟨b9,A9,n9,c9,B9,m9,d9,A10,n10,c10,A11,n11,c11,A12,n12,c12,rfl,⟨hrr,hnn,by rw [← HP1.o,nval_padD (Nat.mod_lt _ (Nat.pow_pos (by omega)))] at hff;exact hff,by rw [← HP2.o,nval_padD (Nat.mod_lt _ (Nat.pow_pos (by omega)))] at htt;exact htt,Nat.lt_of_le_of_lt (Nat.div_le_self _ _) HK.o,Nat.lt_of_le_of_lt (Nat.mod_le _ _) HK.o,Nat.lt_of_le_of_lt (Nat.le_trans (Nat.mod_le _ _) HSL.o.2) HK.o,by omega,by omega⟩⟩,HBZ.o.trans (hg.below (by omega))⟩
end Go.Proofs.YtdgleeglndcjhaaGreatDoor
