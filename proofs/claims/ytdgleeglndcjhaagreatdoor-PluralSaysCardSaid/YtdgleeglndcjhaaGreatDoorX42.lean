import Derived.Test.YtdgleeglndcjhaaGreatDoorX36
import Derived.Test.YtdgleeglndcjhaaGreatDoorX41
import Derived.Test.YtdgleeglndcjhaaGreatDoorX26
import Derived.Test.YtdgleeglndcjhaaGreatDoorX39
import Derived.Test.YtdgleeglndcjhaaGreatDoorX25
set_option linter.unusedSimpArgs false
set_option linter.unusedVariables false
set_option maxHeartbeats 64000000
set_option maxRecDepth 100000
namespace Go.Proofs.YtdgleeglndcjhaaGreatDoor
open Go.RowKit
theorem slc_at {w:World} {A:Option Addr} {n c m:Nat} {xs:List Value} (h:SlC w (.slice A n c) 1 m xs) (h0:0<xs.length):∃ b o,A=some ⟨b,o,none⟩∧∀ j x,xs[j]?=some x→w.cell? ⟨b,o+j,none⟩=some x:=by
 obtain ⟨A',c',h1,h2,h3,h4⟩:=h;obtain ⟨rfl,-,-⟩:=Value.slice.inj h1;exact h4 h0
theorem ref_Select (w:World) (gp:Nat) (E:List Er) (lang:Bs) (b:Bool) (DA:Option Addr) (dn dc k S:Nat) (hP:PlR w gp E) (hE:E.length≤1000) (hSm:∀ e ∈ E,SmallR e.2.2) (hd:D4 w DA dn dc k) (hl:(d4 k).length≤5000) (hS:S≤1000) :
  Calls Tryz.prog 43 #[.pointer (some ⟨gp,0,none⟩),.string ⟨lang.toArray⟩,.agg #[.bool b,.slice DA dn dc,.int .i64 (S:Int)]] w fun e w'=>e=.returned (.string ⟨(selectP (toM E) lang (ofVal k S)).toArray⟩)∧Below w.heap.size w w':=by
 have HP:=qh hP;have HSM:=qh hSm;have HD:=qh hd;have HL:=qh hl;have hEI:(E.length:Int)≤1000:=by omega
 obtain ⟨T,hT⟩:∃ T,selectP (toM E) lang (ofVal k S)=T:=⟨_,rfl⟩;rw [hT];have HT:=qh hT;clear hP hSm hd hl hT;go_enter Tryz.func43,Tryz.ntmps43;go_upto_region 1 with fail;have hal:∀ o,Below w.heap.size w (w.alloc o):=fun o=>(Below.refl _ _).alloc ql _;refine wp_letter (fun w1=>Blk w1 w.heap.size 68 [.bool b,.slice DA dn dc,.int .i64 (S:Int)]∧PlR w1 gp E∧D4 w1 DA dn dc k∧Below w.heap.size w w1) ⟨Blk.made _ 68 _ _ _ rfl rfl,HP.o.below (hal _),HD.o.below (hal _) ql,hal _⟩ ?_;clear hal HP HD;rintro w1 ⟨y1,⟨LA,lc,CA,cc,RA,rc,xs,h1,h2,h3,h4,h5⟩,y3,y4⟩;obtain ⟨g5,hg5⟩:∃ g,w.heap.size=g:=⟨_,rfl⟩;rw [hg5] at y1
 try rw [hg5]
 have D1:=qh y1;have HD:=qh y3;have HB1:=qh y4;have H1:=qh h1;have H2:=qh h2;have H3:=qh h3;have H4:=qh h4;have H5:=qh h5;clear y1 y3 y4 h1 h2 h3 h4 h5 hg5;go_wp2_with fail;go_loopw [7] (fun i wr=>∃ j:Nat,j≤E.length∧i=.int .i64 (j:Int)∧(∀ x ∈ E.take j,¬ (x.1=lang∧holdsV (ofVal k S) x.2.2=true))∧Below w1.heap.size w1 wr) (fun i _=>E.length - (intOf i).toNat)
 case atStart=>exact ⟨0,Nat.zero_le _,rfl,by simp,Below.refl _ _⟩
 case round =>
  obtain ⟨j,hj,rfl,hno,hb⟩:=hrel;obtain ⟨wo,rfl⟩:∃ wo:World,wo=wr:=⟨_,rfl⟩;have HNO:=qh hno;have HB:=qh hb;have hbk:=H1.o.below hb H1.o.lt;obtain ⟨k0,k1,k2⟩:=hbk.c3;clear hno hb hbk;by_cases hlt:j<E.length
  case neg =>
   have hjI:¬ (j:Int)<(E.length:Int):=by omega
   have hfin:T=wOther:=by rw [← HT.o];exact sel_miss (by have h:=HNO.o;rw [List.take_of_length_le (by omega)] at h;exact h)
   have HF:=qh hfin;clear hfin;go_wp2_with fail;go_ret
   exact ⟨by rw [HF.o];rfl,HB1.o.trans (HB.o.mono HB1.o.size)⟩
  obtain ⟨e,he⟩:∃ e,E[j]?=some e:=⟨E[j],List.getElem?_eq_getElem hlt⟩;obtain ⟨lb,lo,rfl,hcl⟩:=H2.o.at (by simp;omega);obtain ⟨cb,co,rfl,hcc⟩:=H3.o.at (by simp;omega);obtain ⟨rb,ro,rfl,hcr⟩:=slc_at H4.o (by have:=H5.o.len;omega);have p1:=hcl j e.1 (by rw [List.getElem?_map,he];rfl);have p2:=hcc j e.2.1 (by rw [List.getElem?_map,he];rfl);obtain ⟨x,hx,A,n,c,rfl,hr⟩:=H5.o.at j e he;have p3:=hcr j _ hx;have HR:=qh hr;have HE:=qh he;have hs:=HSM.o e (List.mem_of_getElem? he);have HS:=qh hs;have hjI:(j:Int)<(E.length:Int):=by omega
  have hj0:(0:Int)≤(j:Int):=by omega
  have HW:Hid (∀ w',Below w1.heap.size w1 w'→w'.cell? ⟨gp,0,none⟩=some (.slice (some ⟨lb,lo,none⟩) E.length lc)∧w'.cell? ⟨gp,1,none⟩=some (.slice (some ⟨cb,co,none⟩) E.length cc)∧w'.cell? ⟨gp,2,none⟩=some (.slice (some ⟨rb,ro,none⟩) E.length rc)∧w'.cell? ⟨lb,lo+j,none⟩=some (.string ⟨e.1.toArray⟩)∧w'.cell? ⟨cb,co+j,none⟩=some (.string ⟨e.2.1.toArray⟩)∧w'.cell? ⟨rb,ro+j,none⟩=some (.slice A n c)∧w'.cell? ⟨g5,0,none⟩=some (.bool b)∧w'.cell? ⟨g5,1,none⟩=some (.slice DA dn dc)∧w'.cell? ⟨g5,2,none⟩=some (.int .i64 (S:Int))):=fun w' h=>by
   have e1:=H1.o.below h H1.o.lt;have e2:=D1.o.below h D1.o.lt;have cc:∀ (a:Addr) u,w1.cell? a=some u→w'.cell? a=some u:=fun a u e=>(h.cell (World.block_lt_of_cell? w1 _ e)).trans e;exact ⟨e1.cell 0,e1.cell 1,e1.cell 2,cc _ _ p1,cc _ _ p2,cc _ _ p3,e2.cell 0,e2.cell 1,e2.cell 2⟩
  have q1:=(HW.o wo HB.o).2.2.2.1;clear hcl hcc hcr he p1 p2 p3 hx hr hs
  have hnx:¬ (e.1=lang∧holdsV (ofVal k S) e.2.2=true)→∀ x ∈ E.take (j+1),¬ (x.1=lang∧holdsV (ofVal k S) x.2.2=true):=fun h x hx=>by
   rw [List.take_add_one,HE.o] at hx;rcases List.mem_append.1 hx with h'|h'
   ·exact HNO.o x h'
   ·obtain rfl:x=e:=by simpa using h'
    exact h
  have HNX:=qh hnx;clear hnx;by_cases hel:e.1=lang
  case neg =>
   have t1:(e.1 == lang)=false:=by simpa using hel
   have HN:=qh (HNX.o fun h=>hel h.1);clear hel;go_wp2_with fail;go_quiet (fail);go_step;go_wp2_with fail;go_roundw
   case rel=>exact ⟨j+1,by omega,by go_num,HN.o,below_drewN HB.o _⟩
   case measure=>simp [intOf];omega
  have t1:(e.1 == lang)=true:=by simpa using hel
  have HEL:=qh hel;obtain ⟨vb,hvb⟩:∃ v,holdsV (ofVal k S) e.2.2=v:=⟨_,rfl⟩;have HVB:=qh hvb;clear hel hvb q1;go_upto_region 4 with fail;clear k0 k1 k2;refine wp_region_but (fun w'=>Below w1.heap.size w1 w') (by kernel_rfl) (by kernel_rfl) HB.o.drew (fun hHeld=>?_);simp only [initL,lastL];refine takeA (i:=0) ?_
  try simp only [Act.put,MT,M0,M1]
  refine takeA (i:=1) ?_
  try simp only [Act.put,MT,M0,M1]
  refine takeA (i:=2) ?_
  try simp only [Act.put,MT,M0,M1]
  refine takeA (i:=3) ?_
  try simp only [Act.put,MT,M0,M1]
  refine takeA (i:=4) ?_
  try simp only [Act.put,MT,M0,M1]
  refine takeA (i:=5) ?_
  try simp only [Act.put,MT,M0,M1]
  refine takeA (i:=6) ?_
  try simp only [Act.put,MT,M0,M1]
  refine takeA (i:=7) ?_
  try simp only [Act.put,MT,M0,M1]
  refine takeA (i:=8) ?_
  try simp only [Act.put,MT,M0,M1]
  refine takeA (i:=9) ?_
  try simp only [Act.put,MT,M0,M1]
  refine takeA (i:=10) ?_
  try simp only [Act.put,MT,M0,M1]
  refine takeA (i:=11) ?_
  try simp only [Act.put,MT,M0,M1]
  refine takeA (i:=12) ?_
  try simp only [Act.put,MT,M0,M1]
  refine takeA (i:=13) ?_
  try simp only [Act.put,MT,M0,M1]
  refine takeA (i:=14) ?_
  try simp only [Act.put,MT,M0,M1]
  refine takeA (i:=15) ?_
  try simp only [Act.put,MT,M0,M1]
  refine takeA (i:=16) ?_
  try simp only [Act.put,MT,M0,M1]
  refine takeA (i:=17) ?_
  try simp only [Act.put,MT,M0,M1]
  refine wpAnyH_ready (rs:=[18]) (by kernel_rfl) (by simp) ?_;refine consL rfl (fun K hK=>?_) AllReadyH.nil;go_simp;refine (ref_Holds _ A n c e.2.2 (HR.o.below hHeld ql) HS.o b DA dn dc k S (HD.o.below hHeld ql) HL.o hS).mono ?_;rintro e5 w5 ⟨he5,hb5⟩;rw [HVB.o] at he5;subst he5;have HB5:=qh (below_on hHeld ql hb5);clear hb5;dsimp only
  try clear hHeld
  refine hK.out _ _ (HB5.o) (fun hHeld=>?_);clear hK K
  try simp only [Act.put,MT,M0,M1]
  refine wpAnyH_done (by kernel_rfl) ?_ _;clear hHeld;unfold TailQ;obtain ⟨k0,k1,k2,q1,q2,-,-,-,-⟩:=HW.o w5 HB5.o;have HBF:=qh (HB1.o.trans (HB5.o.mono HB1.o.size));cases vb with
  | true =>
   have hfin:T=e.2.1:=by rw [← HT.o];exact sel_hit HE.o HEL.o HVB.o HNO.o
   have HF:=qh hfin;clear hfin;go_wp2_with fail;go_ret
   exact ⟨by rw [HF.o];rfl,HBF.o⟩
  | false =>
   have HN:=qh (HNX.o fun h=>by rw [HVB.o] at h;cases h.2);go_wp2_with fail;go_roundw
   case rel=>exact ⟨j+1,by omega,by go_num,HN.o,HB5.o⟩
   case measure=>simp [intOf];omega
theorem ref_Of (w:World) (gp:Nat) (E:List Er) (lang:Bs) (hP:PlR w gp E) (hE:E.length≤1000) :
  Calls Tryz.prog 44 #[.pointer (some ⟨gp,0,none⟩),.string ⟨lang.toArray⟩] w fun e w'=>∃ v,e=.returned v∧OwnS w' w.heap.size v (ofP (toM E) lang)∧Below w.heap.size w w':=by
 obtain ⟨i9,hi9,hz90,hz91,hz92⟩:=info_parts Tryz_info9;obtain ⟨LA,lc,CA,cc,RA,rc,xs,h1,h2,h3,-,-⟩:=hP;have H1:=qh h1;have H2:=qh h2;have H3:=qh h3;have hmx:=maxLen_ge;have hEI:(E.length:Int)≤1000:=by omega
 obtain ⟨F,hF⟩:∃ F:Nat→List Bs,(fun j=>((E.take j).filter fun e=>decide (e.1=lang)).map (·.2.1))=F:=⟨_,rfl⟩
 have hFl:∀ j,(F j).length≤j:=fun j=>by
  rw [← hF];simp only [List.length_map];exact Nat.le_trans (List.length_filter_le _ _) (by rw [List.length_take];omega)
 have hF0:F 0=[]:=by rw [← hF];rfl
 have hFE:ofP (toM E) lang=F E.length ++ [wOther]:=by rw [of_toM,← hF];simp only [List.take_length]
 have hFN:∀ j e,E[j]?=some e→F (j+1)=if e.1=lang then F j ++ [e.2.1] else F j:=fun j e he=>by
  rw [← hF];simp only [List.take_add_one,he,Option.toList_some,List.filter_append,List.map_append];by_cases h:e.1=lang <;> simp [h]
 obtain ⟨acc,hacc⟩:∃ acc,F E.length=acc:=⟨_,rfl⟩;rw [hFE,hacc];have HACC:=qh hacc;have HFL:=qh hFl;have HF0:=qh hF0;have HFN:=qh hFN;clear h1 h2 h3 hF hFl hF0 hFE hFN hacc;go_enter Tryz.func44,Tryz.ntmps44;go_wp2_with fail;go_loopw [5,6] (fun v i wr=>∃ j:Nat,j≤E.length∧i=.int .i64 (j:Int)∧OwnS wr w.heap.size v (F j)∧Below w.heap.size w wr) (fun _ i _=>E.length - (intOf i).toNat)
 case atStart=>exact ⟨0,Nat.zero_le _,rfl,by rw [HF0.o];exact World.ownsRow_nil _ _ _ _,Below.refl _ _⟩
 case round =>
  obtain ⟨j,hj,rfl,ho,hb⟩:=hrel;obtain ⟨wo,rfl⟩:∃ wo:World,wo=wr:=⟨_,rfl⟩;have HO:=qh ho;have HB:=qh hb;have hsz:=hb.size;have hbk:=H1.o.below hb H1.o.lt;obtain ⟨k0,k1⟩:=hbk.c2;have hfl:=HFL.o j;clear ho hb hbk;by_cases hlt:j<E.length
  case neg =>
   have hjI:¬ (j:Int)<(E.length:Int):=by omega
   obtain rfl:j=E.length:=by omega
   rw [HACC.o] at HO hfl;go_wp2_with (at_builtin;refine wpList_append_lies _ (by rfl) _ _ 54 (by rfl) w.heap.size 9 i9 (.string ByteArray.empty) 1 16 Tryz.underlying54 hi9 hz90 hz91 hz92 rfl (by decide) _ acc.length (strs acc) (by rfl) (World.ownsRow.alloc HO.o _) ⟨wo.heap.size,0,none⟩ 1 1 [.string ⟨wOther.toArray⟩] (by rfl) rfl (cell_one_new _ _ _) (by simp [Value.oneCell']) (by omega) (by omega) (by omega) (by simp;omega) (wo.heap.size+1) (by simp) ?_;intro g' cap' w1 hown hgrow hat hlt';have HO7:=qh hown;have HG7:=qh hgrow;clear hown hgrow hat)
   go_ret
   exact ⟨_,rfl,ownS_push HO7.o,below_grown (HB.o.alloc HB.o.size _) HG7.o (Nat.le_trans HB.o.size (by simp)) (fun j hj=>(World.ownsRow.lt HO.o j hj).1)⟩
  obtain ⟨e,he⟩:∃ e,E[j]?=some e:=⟨E[j],List.getElem?_eq_getElem hlt⟩;obtain ⟨lb,lo,rfl,hcl⟩:=(H2.o.below HB.o ql).at (by simp;omega);obtain ⟨cb,co,rfl,hcc⟩:=(H3.o.below HB.o ql).at (by simp;omega);have p1:=hcl j e.1 (by rw [List.getElem?_map,he];rfl);have p2:=hcc j e.2.1 (by rw [List.getElem?_map,he];rfl);have hnx:=HFN.o j e he;have hjI:(j:Int)<(E.length:Int):=by omega
  have hj0:(0:Int)≤(j:Int):=by omega
  clear hcl hcc he;by_cases hel:e.1=lang
  ·have t1:(e.1 == lang)=true:=by simpa using hel
   rw [if_pos hel] at hnx;have HN:=qh hnx;obtain ⟨ac,hac⟩:∃ ac,F j=ac:=⟨_,rfl⟩;rw [hac] at HN HO hfl;clear hel hnx hac;go_wp2_with (at_builtin;refine wpList_append_lies _ (by rfl) _ _ 54 (by rfl) w.heap.size 9 i9 (.string ByteArray.empty) 1 16 Tryz.underlying54 hi9 hz90 hz91 hz92 rfl (by decide) _ ac.length (strs ac) (by rfl) (World.ownsRow.alloc HO.o _) ⟨wo.heap.size,0,none⟩ 1 1 [.string ⟨e.2.1.toArray⟩] (by rfl) rfl (cell_one_new _ _ _) (by simp [Value.oneCell']) (by omega) (by omega) (by omega) (by simp;omega) (wo.heap.size+1) (by simp) ?_;intro g' cap' w1 hown hgrow hat hlt';have HO7:=qh hown;have HG7:=qh hgrow;clear hown hgrow hat)
   go_roundw
   case rel=>exact ⟨j+1,by omega,by go_num,by rw [HN.o];exact ownS_push HO7.o,below_grown (HB.o.alloc HB.o.size _) HG7.o (Nat.le_trans HB.o.size (by simp)) (fun j hj=>(World.ownsRow.lt HO.o j hj).1)⟩
   case measure=>simp [intOf];omega
  ·have t1:(e.1 == lang)=false:=by simpa using hel
   rw [if_neg hel] at hnx;have HN:=qh hnx;clear hel hnx;go_wp2_with fail;go_roundw
   case rel=>exact ⟨j+1,by omega,by go_num,by rw [HN.o];exact HO.o,HB.o⟩
   case measure=>simp [intOf];omega
theorem sel_en (k s:Nat):selectP enM wEn (ofVal k s)=if k=1∧s=0 then wOne else wOther:=by
 have h:holdsV (ofVal k s) exRule=(decide (k / 10 ^ s=1) && decide (s=0)):=holds_exOne _ (by rfl) (by rfl);unfold selectP;rw [en_en];by_cases hs:s=0
 ·subst hs;rw [Nat.pow_zero,Nat.div_one] at h;by_cases hk:k=1
  ·subst hk;rw [if_pos ⟨rfl,rfl⟩];simp at h;simp [List.find?,h]
  ·rw [if_neg (by omega)];simp [List.find?,h,hk]
 ·rw [if_neg (by omega)];simp [List.find?,h,hs]
theorem sel_en1:selectP enM wEn (ofVal (parseD [49]).2.2.1 (parseD [49]).2.2.2)=[111,110,101]:=by rw [parseD_1];exact sel_en 1 0
theorem parseD_2:parseD [50]=(0,false,2,0):=by decide +kernel
theorem sel_en2:selectP enM wEn (ofVal (parseD [50]).2.2.1 (parseD [50]).2.2.2)=[111,116,104,101,114]:=by rw [parseD_2];exact sel_en 2 0
theorem wEn_le:wEn.length≤maxLen:=by decide
theorem load_en (w:World) (hG:GW w):Calls Tryz.prog 29 #[.string ⟨enB.toArray⟩] w fun e w'=>∃ gp,e=.returned (.tuple #[.pointer (some ⟨gp,0,none⟩),.int .i64 0,.int .i64 0])∧PlW w' gp enM∧Below w.heap.size w w':=by
 refine (law_load w enB hG good_enB).mono ?_;rintro e w' ⟨h,hb⟩;rcases h with ⟨h,-⟩|⟨-,gp,he,hP,-⟩
 ·exact absurd en_code h
 ·exact ⟨gp,he,hP,hb⟩
theorem law_awake20 (w:World) (hG:GW w):Calls Tryz.prog 28 #[] w fun e w'=>e=.returned (.bool true)∧Below w.heap.size w w':=by
 have HG:=qh hG;clear hG;go_enter Tryz.func28,Tryz.ntmps28;go_wp2_with fail;refine (law_english w).mono ?_;rintro e w1 ⟨rfl,hb1⟩;have HB1:=qh hb1;clear hb1;dsimp only;go_wp2_with fail;refine (load_en w1 (HG.o.below HB1.o ql)).mono ?_;rintro e w2 ⟨gp,rfl,hP,hb2⟩;have HB2:=qt HB1 hb2;have HP:=qh hP;clear hP hb2;dsimp only;go_wp2_with fail;refine (law_of w2 gp enM wEn [49] (HG.o.below HB2.o ql) HP.o (goodM_all _) wEn_le).mono ?_;rw [sel_en1];rintro e w3 ⟨rfl,hb3⟩;have HB3:=qt HB2 hb3;have HP3:=qh (HP.o.below hb3);clear hb3;dsimp only;go_wp2_with fail;refine (law_of w3 gp enM wEn [50] (HG.o.below HB3.o ql) HP3.o (goodM_all _) wEn_le).mono ?_;rw [sel_en2];rintro e w4 ⟨rfl,hb4⟩;have HB4:=qt HB3 hb4;clear hb4;dsimp only;go_wp2_with fail;go_ret
 exact ⟨rfl,HB4.o⟩
theorem law_texts (w:World) (A B:Option Addr) (n c m d:Nat) (l l':List Bs) (h:StrsAre w A n c l) (h':StrsAre w B m d l') (hl:l.length≤100000) (hl':l'.length≤100000) :
  Calls Tryz.prog 34 #[.slice A n c,.slice B m d] w fun e w'=>e=.returned (.bool (decide (l=l')))∧Below w.heap.size w w':=by
 obtain rfl:n=l.length:=h.len;obtain rfl:m=l'.length:=h'.len;have HA:=qh h;have HB:=qh h';have hlI:(l.length:Int)≤100000:=by omega
 have hlI':(l'.length:Int)≤100000:=by omega
 clear h h';by_cases hn:l.length=l'.length
 case neg =>
  have hnI:((l.length:Int) != (l'.length:Int))=true:=by simp only [bne,Bool.not_eq_true',beq_eq_false_iff_ne];omega
  have hd:decide (l=l')=false:=decide_eq_false (fun e=>hn (congrArg List.length e));rw [hd];clear hd hn;go_enter Tryz.func34,Tryz.ntmps34;go_wp2_with fail;go_ret
  exact ⟨rfl,Below.refl _ _⟩
 have HN:=qh hn;have hnI:((l.length:Int) != (l'.length:Int))=false:=by rw [hn];simp
 clear hn;go_enter Tryz.func34,Tryz.ntmps34;go_wp2_with fail;go_loopw [5] (fun i wr=>EqW w l l' i wr) (fun i _=>l.length - (intOf i).toNat)
 case atStart=>exact ⟨0,Nat.zero_le _,rfl,rfl,Below.refl _ _⟩
 case round =>
  obtain ⟨k,hk,rfl,ht,hb⟩:=hrel;obtain ⟨wo,rfl⟩:∃ wo:World,wo=wr:=⟨_,rfl⟩;have HT:=qh ht;have HBR:=qh hb;clear ht hb;by_cases hlt:k<l.length
  case neg =>
   have hkI:¬ (k:Int)<(l.length:Int):=by omega
   have he:l=l':=by have:=HT.o;rw [List.take_of_length_le (by omega),List.take_of_length_le (by have:=HN.o;omega)] at this;exact this
   have HE:=qh he;clear he;go_wp2_with fail;go_ret
   exact ⟨by rw [decide_eq_true HE.o];rfl,HBR.o⟩
  obtain ⟨b,o,hA,hc⟩:=(HA.o.below HBR.o ql).at (by omega);obtain ⟨b',o',hB,hc'⟩:=(HB.o.below HBR.o ql).at (by have:=HN.o;omega);subst hA;subst hB;obtain ⟨x,hx⟩:∃ x,l[k]?=some x:=⟨l[k],List.getElem?_eq_getElem hlt⟩;obtain ⟨y,hy⟩:∃ y,l'[k]?=some y:=⟨l'[k]'(by have:=HN.o;omega),List.getElem?_eq_getElem _⟩;have k0:=hc k x hx;have k1:=hc' k y hy;have HX:=qh hx;have HY:=qh hy;have hkI:(k:Int)<(l.length:Int):=by omega
  have hkJ:(k:Int)<(l'.length:Int):=by have:=HN.o;omega
  have hk0:(0:Int)≤(k:Int):=by omega
  clear hc hc' hx hy;by_cases hxy:x=y
  ·have hte:(x == y)=true:=by simpa using hxy
   have HXY:=qh hxy;clear hxy;go_wp2_with fail;go_quiet (fail);go_step;go_wp2_with fail;go_roundw
   case rel=>exact ⟨k+1,by omega,by go_num,(take_eq HX.o HY.o).2 ⟨HT.o,HXY.o⟩,below_drewN HBR.o _⟩
   case measure=>simp [intOf];omega
  ·have hte:(x == y)=false:=by simpa using hxy
   have HXY:=qh hxy;clear hxy;go_wp2_with fail;go_quiet (fail);go_step;go_wp2_with fail;go_ret
   exact ⟨by rw [decide_eq_false (fun e=>HXY.o (by have h1:=HX.o;have h2:=HY.o;rw [e,h2] at h1;cases h1;rfl))];rfl,below_drewN HBR.o _⟩
def Light (L:List Rw):Prop:=L.length≤60∧∀ r ∈ L,r.2.length≤30∧∀ t ∈ r.2,t.length≤120
def HeavyPost (w:World) (L:List Rw) (e:Ending) (w':World):Prop:=(e=.returned (.bool true)∨(e=.returned (.bool false)∧Light L))∧Below w.heap.size w w'
theorem law_heavy (w:World) (A:Option Addr) (n c:Nat) (L:List Rw) (h:RowsIs w A n c L):Calls Tryz.prog 37 #[.slice A n c] w (HeavyPost w L):=by
 obtain rfl:n=L.length:=h.len;have HX:=qh h;clear h;by_cases h60:60<L.length
 ·have hI:(60:Int)<(L.length:Int):=by omega
  go_enter Tryz.func37,Tryz.ntmps37;go_wp2_with fail;go_ret
  exact ⟨.inl rfl,Below.refl _ _⟩
 have hI:¬ (60:Int)<(L.length:Int):=by omega
 have hl60:L.length≤60:=by omega
 go_enter Tryz.func37,Tryz.ntmps37;go_wp2_with fail;go_loopw [3] (fun i wr=>∃ k:Nat,k≤L.length∧i=.int .i64 k∧(∀ r ∈ L.take k,r.2.length≤30∧∀ t ∈ r.2,t.length≤120)∧Below w.heap.size w wr) (fun i _=>L.length - (intOf i).toNat)
 case atStart=>exact ⟨0,Nat.zero_le _,rfl,fun r hr=>(by simp at hr),Below.refl _ _⟩
 case round =>
  obtain ⟨k,hk,rfl,hall,hb⟩:=hrel;obtain ⟨wo,rfl⟩:∃ wo:World,wo=wr:=⟨_,rfl⟩;have HALL:=qh hall;have HB:=qh hb;clear hall hb;by_cases hlt:k<L.length
  case neg =>
   have hkI:¬ (k:Int)<(L.length:Int):=by omega
   have hfin:Light L:=⟨hl60,by have:=HALL.o;rw [List.take_of_length_le (by omega)] at this;exact this⟩;have HF:=qh hfin;clear hfin;go_wp2_with fail;go_ret
   exact ⟨.inr ⟨rfl,HF.o⟩,HB.o⟩
  obtain ⟨b,o,rfl,hc⟩:=HX.o.at (by omega);obtain ⟨⟨ln,ws⟩,hx⟩:∃ x,L[k]?=some x:=⟨L[k],List.getElem?_eq_getElem hlt⟩;obtain ⟨WA,wn,wc,hS,c0,c1⟩:=hc k _ hx;dsimp only at hS c0;obtain rfl:wn=ws.length:=hS.len;have HS:=qh hS;have HXX:=qh hx;have hkI:(k:Int)<(L.length:Int):=by omega
  have hk0:(0:Int)≤(k:Int):=by omega
  have HM:Hid (∀ w',Below w.heap.size w w'→w'.cell? ⟨b,o+k * 2+1,none⟩=some (.slice WA ws.length wc)):=fun w' h=>(h.cell (World.block_lt_of_cell? w _ c1)).trans c1;have q1:=HM.o wo HB.o;clear hc hS hx c0 c1;by_cases h30:30<ws.length
  ·have hI3:(30:Int)<(ws.length:Int):=by omega
   go_wp2_with fail;go_ret
   exact ⟨.inl rfl,HB.o⟩
  have hI3:¬ (30:Int)<(ws.length:Int):=by omega
  have hw30:ws.length≤30:=by omega
  go_wp2_with fail;go_loopw [4] (fun i wr=>∃ j:Nat,j≤ws.length∧i=.int .i64 j∧(∀ t ∈ ws.take j,t.length≤120)∧Below w.heap.size w wr) (fun i _=>ws.length - (intOf i).toNat)
  case atStart=>exact ⟨0,Nat.zero_le _,rfl,fun r hr=>(by simp at hr),HB.o⟩
  case round =>
   obtain ⟨j,hj,rfl,hall2,hb2⟩:=hrel;obtain ⟨wi,rfl⟩:∃ wi:World,wi=wr:=⟨_,rfl⟩;have HALL2:=qh hall2;have HB2:=qh hb2;clear hall2 hb2 q1;have q1:=HM.o wi HB2.o;by_cases hjl:j<ws.length
   case neg =>
    have hjI:¬ (j:Int)<(ws.length:Int):=by omega
    go_wp2_with fail;go_roundw
    case rel =>
     refine ⟨k+1,by omega,by go_num,fun r hr=>?_,HB2.o⟩;rw [List.take_add_one,HXX.o] at hr;rcases List.mem_append.1 hr with h|h
     ·exact HALL.o r h
     ·obtain rfl:r=(ln,ws):=by simpa using h
      exact ⟨hw30,by have:=HALL2.o;rw [List.take_of_length_le (by omega)] at this;exact this⟩
    case measure=>simp [intOf];omega
   obtain ⟨sb,so,rfl,hsc⟩:=(HS.o.below HB2.o ql).at (by omega);obtain ⟨t,ht⟩:∃ t,ws[j]?=some t:=⟨ws[j],List.getElem?_eq_getElem hjl⟩;have q2:=hsc j t ht;have HT:=qh ht;have hjI:(j:Int)<(ws.length:Int):=by omega
   have hj0:(0:Int)≤(j:Int):=by omega
   clear hsc ht;by_cases h120:120<t.length
   ·have hI4:(120:Int)<(t.length:Int):=by omega
    go_wp2_with fail;go_ret
    exact ⟨.inl rfl,HB2.o⟩
   ·have hI4:¬ (120:Int)<(t.length:Int):=by omega
    go_wp2_with fail;go_roundw
    case rel =>
     refine ⟨j+1,by omega,by go_num,fun r hr=>?_,HB2.o⟩;rw [List.take_add_one,HT.o] at hr;rcases List.mem_append.1 hr with h|h
     ·exact HALL2.o r h
     ·obtain rfl:r=t:=by simpa using h
      omega
    case measure=>simp [intOf];omega
set_option exponentiation.threshold 5000 in
theorem decK_lt2 {b:Bool} {l:List Nat} {sc:Int} (hw:Wd l) (hl:l.length≤10):decK b l sc<2 ^ (32 * 10):=by
 unfold decK;split
 ·refine Nat.lt_of_lt_of_le (val_lt l hw) ?_;rw [show (4294967296:Nat)=2 ^ 32 from rfl,← Nat.pow_mul];exact Nat.pow_le_pow_right (by omega) (by omega)
 ·exact Nat.pow_pos (by omega)
theorem decS_le (b:Bool) (l:List Nat) (sc:Int):decS b l sc≤1000:=by
 unfold decS;split
 ·rename_i h;unfold goodD at h;simp only [Bool.and_eq_true,decide_eq_true_eq] at h;omega
 ·exact Nat.zero_le _
theorem mem_toM {E:List Er} {e:Er} (h:e ∈ E):(e.2.1,e.2.2) ∈ toM E e.1:=List.mem_map.2 ⟨e,List.mem_filter.2 ⟨h,by simp⟩,rfl⟩
set_option exponentiation.threshold 5000 in
theorem law_PluralSays (w:World) (RA:Option Addr) (rn rc:Nat) (L:List Rw) (lang:Bs) (b:Bool) (A:Option Addr) (n c:Nat) (l:List Nat) (sc:Int) (hG:GW w) (hR:RowsIs w RA rn rc L) (hlang:lang.length≤maxLen) (h:RL w (.slice A n c) l) :
  Calls Tryz.prog 11 #[.slice RA rn rc,.string ⟨lang.toArray⟩,.agg #[.bool b,.slice A n c,.int .i64 sc]] w fun e w'=>e=.returned (.bool true)∧Below w.heap.size w w':=by
 have HG:=qh hG;have HR:=qh hR;have HX:=qh h;obtain rfl:n=l.length:=by obtain ⟨A',c',h1,-⟩:=h.form;exact (Value.slice.inj h1).2.1
 clear hG hR h;go_enter Tryz.func11,Tryz.ntmps11;go_upto_region 1 with fail;refine wp_letter (fun w1=>Blk w1 w.heap.size 26 [.bool b,.slice A l.length c,.int .i64 sc]∧Below w.heap.size w w1) ⟨Blk.made _ 26 _ _ _ rfl rfl,(Below.refl _ _).alloc ql _⟩ ?_;rintro w1 ⟨y1,y2⟩;have B1:=qh y1;have HB1:=qh y2;obtain ⟨g5,hg5⟩:∃ g5,w.heap.size=g5:=⟨_,rfl⟩;rw [hg5] at B1
 try rw [hg5]
 clear y1 y2 hg5;go_wp2_with fail;refine (law_awake20 w1 (HG.o.below HB1.o ql)).mono ?_;rintro e w2 ⟨rfl,hb⟩;have B2:=qh (B1.o.below hb B1.o.lt);have HB2:=qt HB1 hb;clear hb B1 HB1;dsimp only;go_wp2_with fail;refine (law_heavy w2 RA rn rc L (HR.o.below HB2.o ql)).mono ?_;rintro e w3 ⟨he,hb⟩;have B3:=qh (B2.o.below hb B2.o.lt);have HB3:=qt HB2 hb;clear hb B2 HB2;obtain ⟨k0,k1,k2⟩:=B3.o.c3;rcases he with rfl|⟨rfl,hlight⟩
 ·dsimp only;go_wp2_with fail;go_ret
  exact ⟨rfl,HB3.o⟩
 have HLT:=qh hlight;clear hlight;dsimp only;by_cases h10:10<l.length
 ·have hI:(10:Int)<(l.length:Int):=by omega
  go_wp2_with fail;go_ret
  exact ⟨rfl,HB3.o⟩
 have hI:¬ (10:Int)<(l.length:Int):=by omega
 have hl10:l.length≤10:=by omega
 have hLl:L.length≤60:=HLT.o.1;have hwl:∀ r ∈ L,r.2.length≤1000∧∀ t ∈ r.2,t.length≤100000:=fun r hr=>⟨by have:=(HLT.o.2 r hr).1;omega,fun t ht=>by have:=(HLT.o.2 r hr).2 t ht;omega⟩;have HWL:=qh hwl;clear hwl;go_wp2_with fail;refine (plural_Load w3 RA rn rc L (HG.o.below HB3.o ql) (HR.o.below HB3.o ql) (by omega) HWL.o).mono ?_;rintro e w4 ⟨hc,hb⟩;have B4:=qh (B3.o.below hb B3.o.lt);have HB4:=qt HB3 hb;clear hb B3 HB3 k0 k1 k2;rcases hc with ⟨hne,rfl⟩|⟨h0,gp,rfl,hP,-⟩
 ·dsimp only;go_wp2_with fail;refine (law_rowsOf w4 RA rn rc L (HR.o.below HB4.o ql) (by omega)).mono ?_;rintro e w5 ⟨A5,n5,c5,rfl,hr5,hb⟩;have HB5:=qt HB4 hb;have HR5:=qh hr5;clear hb hr5;dsimp only;go_wp2_with fail;refine (ref_LoadPlurals w5 A5 n5 c5 L HR5.o (by omega) HWL.o).mono ?_;rintro e w6 ⟨hc,hb⟩;have HB6:=qt HB5 hb;rcases hc with ⟨-,rfl⟩|⟨h0,-⟩
  case inr=>exact absurd h0 hne
  clear hb;generalize (loadAll L).1=cd at *
  generalize (loadAll L).2.1=ln at *
  have hcI:(((cd:Nat):Int) != 0)=true:=by simp only [bne,Bool.not_eq_true',beq_eq_false_iff_ne];omega
  have hcI2:(((cd:Nat):Int) == 0)=false:=by rw [beq_eq_false_iff_ne];omega
  clear hne;dsimp only;go_wp2_with fail;go_ret
  exact ⟨rfl,HB6.o⟩
 have HP4:=qh hP;have H0:=qh h0;clear hP h0;dsimp only;go_wp2_with fail;refine (law_rowsOf w4 RA rn rc L (HR.o.below HB4.o ql) (by omega)).mono ?_;rintro e w5 ⟨A5,n5,c5,rfl,hr5,hb⟩;have B5:=qh (B4.o.below hb B4.o.lt);have HB5:=qt HB4 hb;have HR5:=qh hr5;have HP5:=qh (HP4.o.below hb);clear hb hr5 B4 HB4 HP4;dsimp only;go_wp2_with fail;refine (ref_LoadPlurals w5 A5 n5 c5 L HR5.o (by omega) HWL.o).mono ?_;rintro e w6 ⟨hc,hb⟩;have B6:=qh (B5.o.below hb B5.o.lt);have HB6:=qt HB5 hb;have HP6:=qh (HP5.o.below hb);clear hb B5 HB5 HP5 HR5;rcases hc with ⟨hne,-⟩|⟨-,gq,E,rfl,hQ,hEM,hEl⟩
 ·exact absurd H0.o hne
 have hM:=goodM_all L;rw [← hEM] at hM HP6;have HM:=qh hM;have HSM:Hid (∀ e ∈ E,SmallR e.2.2):=fun e he=>hM.small e.1 (e.2.1,e.2.2) (mem_toM he);have HQ6:=qh hQ;have hE1:E.length≤1000:=by omega
 clear hM hQ hEM H0;obtain ⟨q,hq⟩:∃ q,q=32 * 10:=⟨_,rfl⟩;have HK:Hid (decK b l sc<2 ^ q):=by rw [hq];exact decK_lt2 HX.o.2 hl10
 have hd4:(d4 (decK b l sc)).length≤5000:=Nat.le_trans (d4_len (n:=80) (Nat.lt_of_lt_of_le (decK_lt2 HX.o.2 hl10) (by rw [show 32 * 10=4 * 80 by rfl,Nat.pow_mul];exact Nat.pow_le_pow_left (by decide) 80))) (by decide);have HL4:=qh hd4;have HDS:=qh (decS_le b l sc);clear hd4;dsimp only;go_upto_region 12 with fail;obtain ⟨g13,hg13⟩:∃ g,w6.heap.size=g:=⟨_,rfl⟩;have hal:∀ o,Below w6.heap.size w6 (w6.alloc o):=fun o=>(Below.refl _ _).alloc ql _;refine wp_letter (fun w7=>Blk w7 w6.heap.size 68 [.bool false,.slice none 0 0,.int .i64 0]∧Below w6.heap.size w6 w7) ⟨Blk.made _ 68 _ _ _ rfl rfl,hal _⟩ ?_;clear hal;rintro w7 ⟨y1,y2⟩;rw [hg13] at y1
 try rw [hg13]
 have X7:=qh y1;have D7:=qh y2;have HG13:=qh hg13;have b7:=B6.o.below y2 B6.o.lt;obtain ⟨k0,k1,k2⟩:=b7.c3;have HB7:=qt HB6 y2;clear y1 y2 b7 hg13;go_wp2_with fail;refine (dec_Good w7 b A l.length c l sc (HX.o.below HB7.o ql) (by omega)).mono ?_;obtain ⟨gd,hgd⟩:∃ g,goodD b l sc=g:=⟨_,rfl⟩;rw [hgd];rintro e w8 ⟨rfl,hb⟩;have X8:=qh (X7.o.below hb X7.o.lt);have D8:=qt D7 hb;have HGD:=qh hgd;clear hb hgd X7 D7 HB7 k0 k1 k2;dsimp only;go_upto_if 58 with fail;go_cut [] (fun wx=>(∃ bx XA xn xc,Blk wx g13 68 [.bool bx,.slice XA xn xc,.int .i64 (decS b l sc:Nat)]∧D4 wx XA xn xc (decK b l sc))∧Below w6.heap.size w6 wx)
 case first =>
  have HDK:Hid (decK b l sc=if gd then val l else 0):=by unfold decK;rw [HGD.o];exact qh rfl
  have HDS2:Hid (decS b l sc=if gd then sc.toNat else 0):=by unfold decS;rw [HGD.o];exact qh rfl
  cases gd with
  | false =>
   have HK1:Hid (decK b l sc=0):=by rw [HDK.o];rfl
   have HS1:Hid (decS b l sc=0):=by rw [HDS2.o];rfl
   go_wp2_with fail;go_meet
   exact ⟨⟨false,none,0,0,by rw [HS1.o];exact X8.o,by rw [HK1.o];exact d4_nil _⟩,D8.o⟩
  | true =>
   have HK1:Hid (decK b l sc=val l):=by rw [HDK.o];rfl
   have HS1:Hid (decS b l sc=sc.toNat):=by rw [HDS2.o];rfl
   have HSC:Hid (0≤sc):=by
    have hg:=HGD.o;unfold goodD at hg;simp only [Bool.and_eq_true,decide_eq_true_eq] at hg;exact hg.2.1
   have HKK:Hid (∀ w',Below w8.heap.size w8 w'→w'.cell? ⟨g5,0,none⟩=some (.bool b)∧w'.cell? ⟨g5,1,none⟩=some (.slice A l.length c)∧w'.cell? ⟨g5,2,none⟩=some (.int .i64 sc)∧Below w8.heap.size w8 w'):=fun w' h=>by
    have e0:=(B6.o.below D8.o B6.o.lt).below h (B6.o.below D8.o B6.o.lt).lt;exact ⟨e0.cell 0,e0.cell 1,e0.cell 2,h⟩
   go_upto_region 13 with fail;refine wp_region_but (fun w'=>w'.cell? ⟨g5,0,none⟩=some (.bool b)∧w'.cell? ⟨g5,1,none⟩=some (.slice A l.length c)∧w'.cell? ⟨g5,2,none⟩=some (.int .i64 sc)∧Below w8.heap.size w8 w') (by kernel_rfl) (by kernel_rfl) (HKK.o _ (Below.refl _ _).drew) (fun hHeld=>?_);simp only [initL,lastL];refine takeA (i:=0) ?_
   try simp only [Act.put,MT,M0,M1]
   refine takeA (i:=1) ?_
   try simp only [Act.put,MT,M0,M1]
   refine takeA (i:=2) ?_
   try simp only [Act.put,MT,M0,M1]
   refine takeA (i:=3) ?_
   try simp only [Act.put,MT,M0,M1]
   refine takeA (i:=4) ?_
   try simp only [Act.put,MT,M0,M1]
   refine takeA (i:=6) ?_
   try simp only [Act.put,MT,M0,M1]
   refine takeA (i:=7) ?_
   try simp only [Act.put,MT,M0,M1]
   refine wpAnyH_ready (rs:=[5]) (by kernel_rfl) (by simp) ?_;refine consL rfl (fun K hK=>?_) AllReadyH.nil;go_simp;refine (ref_Words _ A l.length c l (HX.o.below ((HB6.o.trans (D8.o.mono HB6.o.size)).trans ((by go_split_ands;assumption:Below w8.heap.size w8 _).mono (HB6.o.trans (D8.o.mono HB6.o.size)).size)) ql) (by omega)).mono ?_;rintro e w9 ⟨⟨A9,n9,c9,rfl,r⟩,hb⟩;have HB9:Hid (Below w8.heap.size w8 w9):=below_on (by go_split_ands;assumption) ql hb;have R9:=qh r;clear r hb;dsimp only
   try clear hHeld
   refine hK.out _ _ (HKK.o _ HB9.o) (fun hHeld=>?_);clear hK K
   try simp only [Act.put,MT,M0,M1]
   refine takeA (i:=8) ?_
   try simp only [Act.put,MT,M0,M1]
   refine wpAnyH_letter (fun wz=>D4 wz A9 n9 c9 (val l)∧Blk wz g13 68 [.bool false,.slice none 0 0,.int .i64 0]∧Below w8.heap.size w8 wz) ⟨R9.o,X8.o.below HB9.o X8.o.lt,HB9.o⟩ ?_;clear hHeld;rintro wz ⟨y1,y2,y3⟩;have hHeld:=HKK.o wz y3;have Y1:=qh y1;have Y2:=qh y2;have Y3:=qt D8 y3;clear y1 y2 y3;refine wpAnyH_done (by kernel_rfl) ?_ _;clear hHeld;have hz:=Y2.o.lt;have hs:=Y1.o.putD (Y1.o.zcell Y2.o) (.bool b) (.slice A9 n9 c9) (.int .i64 sc);have hf:=(((Y2.o.put 0 (.bool b)).put 1 (.slice A9 n9 c9)).put 2 (.int .i64 sc));simp only [M0,M1] at hf;have hg6:w6.heap.size≤g13:=by rw [HG13.o];exact ql
   have hbf:=below_set (below_set (below_set Y3.o g13 0 hg6 (.bool b)) g13 1 hg6 (.slice A9 n9 c9)) g13 2 hg6 (.int .i64 sc);have HSF:=qh hs;have HFF:=qh hf;have HBF:=qh hbf;unfold TailQ;obtain ⟨p0,p1,p2,q0,q1,q2⟩:=Y2.o.cf3;clear hs hf hbf hg6;go_wp2_with fail;go_meet
   have hsc:sc=((sc.toNat:Nat):Int):=by have:=HSC.o;omega
   exact ⟨⟨b,A9,n9,c9,by rw [HS1.o,← hsc];exact HFF.o,by rw [HK1.o];exact HSF.o⟩,HBF.o⟩
 case rest =>
  obtain ⟨⟨bx,XA,xn,xc,hx1,hx2⟩,hx3⟩:=hcut;have X9:=qh hx1;have Y9:=qh hx2;have D9:=qh hx3;have HBC:=qt HB6 hx3;have B9:=qh (B6.o.below hx3 B6.o.lt);have HP9:=qh (HP6.o.below hx3);have HQ9:=qh (HQ6.o.below hx3);clear hx1 hx2 hx3 X8 D8 HGD HP6 HQ6 B6 D9;obtain ⟨T,hT⟩:∃ T,selectP (toM E) lang (ofVal (decK b l sc) (decS b l sc))=T:=⟨_,rfl⟩;obtain ⟨os,hos⟩:∃ os,ofP (toM E) lang=os:=⟨_,rfl⟩;have hol:os.length≤1001:=by rw [← hos];unfold ofP;have:=HP9.o.few lang;simp;omega
  have HT:=qh hT;have HOS:=qh hos
  have HW:Hid (∀ w',Below wc.heap.size wc w'→w'.cell? ⟨g5,0,none⟩=some (.bool b)∧w'.cell? ⟨g5,1,none⟩=some (.slice A l.length c)∧w'.cell? ⟨g5,2,none⟩=some (.int .i64 sc)∧w'.cell? ⟨g13,0,none⟩=some (.bool bx)∧w'.cell? ⟨g13,1,none⟩=some (.slice XA xn xc)∧w'.cell? ⟨g13,2,none⟩=some (.int .i64 (decS b l sc:Nat))):=fun w' h=>by
   have e1:=B9.o.below h B9.o.lt;have e2:=X9.o.below h X9.o.lt;exact ⟨e1.cell 0,e1.cell 1,e1.cell 2,e2.cell 0,e2.cell 1,e2.cell 2⟩
  clear hT hos X9 B9;go_step;go_upto_region 14 with fail;refine wp_region_but (fun w'=>Below wc.heap.size wc w') (by kernel_rfl) (by kernel_rfl) (Below.refl _ _).drew (fun hHeld=>?_);simp only [initL,lastL];have HB0:=qh hHeld;refine takeA (i:=0) ?_
  try simp only [Act.put,MT,M0,M1]
  refine takeA (i:=1) ?_
  try simp only [Act.put,MT,M0,M1]
  refine takeA (i:=2) ?_
  try simp only [Act.put,MT,M0,M1]
  refine takeA (i:=3) ?_
  try simp only [Act.put,MT,M0,M1]
  refine takeA (i:=4) ?_
  try simp only [Act.put,MT,M0,M1]
  refine takeA (i:=5) ?_
  try simp only [Act.put,MT,M0,M1]
  refine takeA (i:=7) ?_
  try simp only [Act.put,MT,M0,M1]
  refine takeA (i:=8) ?_
  try simp only [Act.put,MT,M0,M1]
  refine takeA (i:=9) ?_
  try simp only [Act.put,MT,M0,M1]
  refine wpAnyH_ready (rs:=[6]) (by kernel_rfl) (by simp) ?_;refine consL rfl (fun K hK=>?_) AllReadyH.nil;go_simp;refine (plural_Select _ gp (toM E) lang b A l.length c l sc q (HG.o.below (HBC.o.trans (HB0.o.mono HBC.o.size)) ql) (HP9.o.below HB0.o) (HM.o.small lang) hlang (HX.o.below (HBC.o.trans (HB0.o.mono HBC.o.size)) ql) (by omega) HK.o (by omega) (by omega)).mono ?_;rintro e wr1 ⟨he,hb⟩;rw [HT.o] at he;subst he;have HBr1:=qh (below_on HB0.o ql hb);clear hb;dsimp only
  try clear hHeld
  refine hK.out _ _ (HBr1.o) (fun hHeld=>?_);clear hK K
  try simp only [Act.put,MT,M0,M1]
  refine wpAnyH_ready (rs:=[10]) (by kernel_rfl) (by simp) ?_;refine consL rfl (fun K hK=>?_) AllReadyH.nil;go_simp;refine (ref_Select _ gq E lang bx XA xn xc (decK b l sc) (decS b l sc) (HQ9.o.below HBr1.o) hE1 HSM.o (Y9.o.below HBr1.o ql) HL4.o HDS.o).mono ?_;rintro e wr2 ⟨he,hb⟩;rw [HT.o] at he;subst he;have HBr2:=qh (below_on HBr1.o ql hb);clear hb;dsimp only
  try clear hHeld
  refine hK.out _ _ (HBr2.o) (fun hHeld=>?_);clear hK K
  try simp only [Act.put,MT,M0,M1]
  refine takeA (i:=11) ?_
  try simp only [Act.put,MT,M0,M1]
  refine takeA (i:=12) ?_
  try simp only [Act.put,MT,M0,M1]
  refine takeA (i:=13) ?_
  try simp only [Act.put,MT,M0,M1]
  refine takeA (i:=14) ?_
  try simp only [Act.put,MT,M0,M1]
  refine takeA (i:=15) ?_
  try simp only [Act.put,MT,M0,M1]
  refine takeA (i:=17) ?_
  try simp only [Act.put,MT,M0,M1]
  refine takeA (i:=18) ?_
  try simp only [Act.put,MT,M0,M1]
  refine wpAnyH_ready (rs:=[16]) (by kernel_rfl) (by simp) ?_;refine consL rfl (fun K hK=>?_) AllReadyH.nil;go_simp;refine (plural_Of _ gp (toM E) lang (HP9.o.below HBr2.o) hlang).mono ?_;rintro e wr3 ⟨v3,rfl,hv,hb⟩;rw [HOS.o] at hv;obtain ⟨V3,vn3,vc3,rfl,hS⟩:=hv.strs;have HBr3:=qh (below_on HBr2.o ql hb);have bq3:=qh hS;clear hv hS;clear hb;dsimp only
  try clear hHeld
  refine hK.out _ _ (HBr3.o) (fun hHeld=>?_);clear hK K
  try simp only [Act.put,MT,M0,M1]
  refine wpAnyH_ready (rs:=[19]) (by kernel_rfl) (by simp) ?_;refine consL rfl (fun K hK=>?_) AllReadyH.nil;go_simp;refine (ref_Of _ gq E lang (HQ9.o.below HBr3.o) hE1).mono ?_;rintro e wr4 ⟨v4,rfl,hv,hb⟩;rw [HOS.o] at hv;obtain ⟨V4,vn4,vc4,rfl,hS⟩:=hv.strs;have HBr4:=qh (below_on HBr3.o ql hb);have aq4:=qh (bq3.out.below hb ql);have bq4:=qh hS;clear hv hS;clear hb;dsimp only
  try clear hHeld
  refine hK.out _ _ (HBr4.o) (fun hHeld=>?_);clear hK K
  try simp only [Act.put,MT,M0,M1]
  refine wpAnyH_ready (rs:=[20]) (by kernel_rfl) (by simp) ?_;refine consL rfl (fun K hK=>?_) AllReadyH.nil;go_simp;refine (law_texts _ V3 V4 vn3 vc3 vn4 vc4 os os aq4.out bq4.out (by omega) (by omega)).mono ?_;rintro e wr5 ⟨he,hb⟩;rw [decide_eq_true rfl] at he;subst he;have HBr5:=qh (below_on HBr4.o ql hb);clear hb;dsimp only
  try clear hHeld
  refine hK.out _ _ (HBr5.o) (fun hHeld=>?_);clear hK K
  try simp only [Act.put,MT,M0,M1]
  refine takeA (i:=21) ?_
  try simp only [Act.put,MT,M0,M1]
  refine wpAnyH_done (by kernel_rfl) ?_ _;clear hHeld;unfold TailQ;go_wp2_with fail;go_ret
  exact ⟨rfl,HBC.o.trans (HBr5.o.mono HBC.o.size)⟩
theorem law_PluralSaysS (w:World) (RA:Option Addr) (rn rc:Nat) (L:List Rw) (s:ByteArray) (b:Bool) (A:Option Addr) (n c:Nat) (l:List Nat) (sc:Int) (hG:GW w) (hR:RowsIs w RA rn rc L) (hs:s.size≤maxLen) (h:RL w (.slice A n c) l) :
  Calls Tryz.prog 11 #[.slice RA rn rc,.string s,.agg #[.bool b,.slice A n c,.int .i64 sc]] w fun e w'=>e=.returned (.bool true)∧Below w.heap.size w w':=by
 obtain ⟨p,rfl⟩:∃ p:Bs,s=⟨p.toArray⟩:=⟨s.data.toList,by cases s;simp⟩
 have hp:p.length≤maxLen:=by
  have h1:p.toArray.size≤maxLen:=hs;simpa using h1
 exact law_PluralSays w RA rn rc L p b A n c l sc hG hR hp h
end Go.Proofs.YtdgleeglndcjhaaGreatDoor
