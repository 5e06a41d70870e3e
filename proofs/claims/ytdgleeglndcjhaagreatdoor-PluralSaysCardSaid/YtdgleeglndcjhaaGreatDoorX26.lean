import Derived.Test.YtdgleeglndcjhaaGreatDoorX11
import Derived.Test.YtdgleeglndcjhaaGreatDoorX25
import Derived.Test.YtdgleeglndcjhaaGreatDoorX23
import Derived.Test.YtdgleeglndcjhaaGreatDoorX10
set_option linter.unusedSimpArgs false
set_option linter.unusedVariables false
set_option maxHeartbeats 32000000
set_option maxRecDepth 100000
namespace Go.Proofs.YtdgleeglndcjhaaGreatDoor
open Go.RowKit
def selectP (m:PMap) (lang:Bs) (val:Nat→Nat × Nat):Bs :=
 match (m lang).find? (fun e=>holdsV val e.2) with
 | some e=>e.1
 | none=>wOther
theorem find_take {α:Type} {p:α→Bool} {l:List α} {k:Nat} {x:α} (hx:l[k]?=some x) (hp:p x=true) (hno:∀ e ∈ l.take k,p e=false):l.find? p=some x:=by
 rw [← List.take_append_drop k l,List.find?_append,List.find?_eq_none.2 (fun e he=>by simp [hno e he]),drop_at hx];simp [hp]
theorem plural_Select (w:World) (gp:Nat) (m:PMap) (lang:Bs) (b:Bool) (A:Option Addr) (n c:Nat) (l:List Nat) (sc:Int) (q:Nat) (hG:GW w) (hP:PlW w gp m) (hSm:∀ e ∈ m lang,SmallR e.2) (hlang:lang.length≤maxLen)
  (h:RL w (.slice A n c) l) (hl:l.length≤1000000) (hk:decK b l sc<2 ^ q) (hq:200≤q) (hq2:q≤40000) :
  Calls Tryz.prog 31 #[.pointer (some ⟨gp,0,none⟩),.string ⟨lang.toArray⟩,.agg #[.bool b,.slice A n c,.int .i64 sc]] w fun e w'=>e=.returned (.string ⟨(selectP m lang (ofVal (decK b l sc) (decS b l sc))).toArray⟩)∧Below w.heap.size w w':=by
 have HG:=qh hG;have HPL:=qh hP;have HX:=qh h;have HS:=qh hSm;obtain ⟨k,hdk⟩:∃ k,decK b l sc=k:=⟨_,rfl⟩;obtain ⟨S,hds⟩:∃ S,decS b l sc=S:=⟨_,rfl⟩;have HK:=qh hk;rw [hdk,hds];have HDK:=qh hdk;have HDS:=qh hds;clear hG hP h hSm hk hdk hds;go_enter Tryz.func31,Tryz.ntmps31;go_upto_region 1 with fail;refine wp_letter (fun w1=>Blk w1 w.heap.size 26 [.bool b,.slice A n c,.int .i64 sc]∧PlW w1 gp m∧Below w.heap.size w w1) ⟨Blk.made _ 26 _ _ _ rfl rfl,HPL.o.below ((Below.refl _ _).alloc ql _),(Below.refl _ _).alloc ql _⟩ ?_;rintro w1 ⟨y1,y2,y3⟩;have Y2:=qh y2;have HB1:=qh y3;obtain ⟨k0,k1,k2⟩:=y1.c3;clear y1 y2 y3 HPL;go_wp2_with fail;refine (oper_Of w1 b A n c l sc q (HG.o.below HB1.o ql) (HX.o.below HB1.o ql) hl HK.o hq hq2).mono ?_;rw [HDK.o,HDS.o];rintro e w2 ⟨⟨ob,oA,on,oc,oB,om,od,iA,il,ic,fA,fl,fc',tA,tl,tc',rfl,r⟩,hb2⟩;obtain ⟨g6,hg6⟩:∃ g6,w2.heap.size=g6:=⟨_,rfl⟩;have hba:Below w2.heap.size w2 (w2.alloc (.cells #[.bool ob,.slice oA on oc,.slice oB om od,.slice iA il ic,.int .i64 (S:Nat),.int .i64 ((short k S).2:Nat),.slice fA fl fc',.slice tA tl tc'] 39)):=(Below.refl _ _).alloc ql _;have hbb:=hb2.trans (hba.mono hb2.size);have z1:=Y2.o.below hbb;have z2:=r.below hba ql;have z3:Blk (w2.alloc (.cells #[.bool ob,.slice oA on oc,.slice oB om od,.slice iA il ic,.int .i64 (S:Nat),.int .i64 ((short k S).2:Nat),.slice fA fl fc',.slice tA tl tc'] 39)) g6 39 [.bool ob,.slice oA on oc,.slice oB om od,.slice iA il ic,.int .i64 (S:Nat),.int .i64 ((short k S).2:Nat),.slice fA fl fc',.slice tA tl tc']:=by rw [← hg6];exact Blk.made _ 39 _ _ _ rfl rfl
 have z4:=HB1.o.trans (hbb.mono HB1.o.size);have Z1:=qh z1;have Z2:=qh z2;have Z3:=qh z3;have Z4:=qh z4;clear z1 z2 z3 z4 hba hbb hb2 r k0 k1 k2 Y2;dsimp only;go_upto_region 2 with fail
 try rw [hg6]
 refine wp_letter (fun w3=>PlW w3 gp m∧OpR w3 ob oA on oc oB om od iA il ic fA fl fc' tA tl tc' k (10 ^ S) q (k / 10 ^ S) S (short k S).2 (k % 10 ^ S) ((short k S).1 % 10 ^ (short k S).2)∧Blk w3 g6 39 [.bool ob,.slice oA on oc,.slice oB om od,.slice iA il ic,.int .i64 (S:Nat),.int .i64 ((short k S).2:Nat),.slice fA fl fc',.slice tA tl tc']∧Below w.heap.size w w3) ⟨Z1.o,Z2.o,Z3.o,Z4.o⟩ ?_;clear Z1 Z2 Z3 Z4 hg6 HB1;rintro w3 ⟨⟨gm,n0,W,f,es,hp,hI,hm,hn,-⟩,z2,z3,z4⟩;have OP:=qh z2;have O6:=qh z3;have HB3:=qh z4;have HI:=qh hI;have HM:=qh hm;have hlook:=hI.map.look lang hlang;obtain ⟨LA,lc,hlf,-⟩:=SlC.own (hI.row lang);have HLF:=qh hlf;have hel:=hI.few lang;have helI:((es lang).length:Int)≤1000:=by omega
 rw [hlf] at hlook;clear z2 z3 z4 hI hm hlf;have HVAL:Hid (ofVal k S=opVal k (10 ^ S) (k / 10 ^ S) S (short k S).2 (k % 10 ^ S) ((short k S).1 % 10 ^ (short k S).2)):=rfl;go_wp2_with fail;clear hlook hp;obtain ⟨V,hV⟩:∃ V,opVal k (10 ^ S) (k / 10 ^ S) S (short k S).2 (k % 10 ^ S) ((short k S).1 % 10 ^ (short k S).2)=V:=⟨_,rfl⟩;rw [hV] at HVAL;have HV:=qh hV;clear hV;go_loopw [19] (fun i wr=>∃ j:Nat,j≤(es lang).length∧i=.int .i64 j∧(∀ e ∈ (es lang).take j,holdsV V e.2.2=false)∧Below w3.heap.size w3 wr) (fun i _=>(es lang).length - (intOf i).toNat)
 case atStart=>exact ⟨0,Nat.zero_le _,rfl,fun e he=>(by simp at he),Below.refl _ _⟩
 case round =>
  obtain ⟨j,hj,rfl,hno,hb⟩:=hrel;have HNO:=qh hno;have HB:=qh hb;clear hno hb;obtain ⟨wo,rfl⟩:∃ wo:World,wo=wr:=⟨_,rfl⟩
  have hml:(m lang).find? (fun e=>holdsV V e.2)=((es lang).find? (fun e=>holdsV V e.2.2)).map prow:=by
   rw [← HM.o];unfold contents;rw [List.find?_map];rfl
  have HML:=qh hml;clear hml;by_cases hlt:j<(es lang).length
  case neg =>
   have hjI:¬ (j:Int)<((es lang).length:Int):=by omega
   have hsel:selectP m lang (ofVal k S)=wOther:=by
    have h:=HNO.o;rw [List.take_of_length_le (by omega)] at h;unfold selectP;rw [HVAL.o,HML.o,List.find?_eq_none.2 (fun e he=>by simp [h e he])]
    rfl
   have HSEL:=qh hsel;clear hsel;go_wp2_with fail;go_ret
   exact ⟨by rw [HSEL.o];rfl,HB3.o.trans (HB.o.mono HB3.o.size)⟩
  obtain ⟨pb,po,rfl,hc⟩:=HI.o.at lang HLF.o (by omega);obtain ⟨⟨ct,rv,r⟩,he⟩:∃ e,(es lang)[j]?=some e:=⟨(es lang)[j],List.getElem?_eq_getElem hlt⟩;obtain ⟨RA,rn,rc,hR,c0,c1⟩:=hc j _ he;dsimp only at hR c0;have q0:wo.cell? ⟨pb,po+j * 2,none⟩=some (.string ⟨ct.toArray⟩):=(HB.o.cell (World.block_lt_of_cell? w3 _ c0)).trans c0;have q1:wo.cell? ⟨pb,po+j * 2+1,none⟩=some (.slice RA rn rc):=(HB.o.cell (World.block_lt_of_cell? w3 _ c1)).trans c1;have HR:=qh (hR.below HB.o ql);have HE:=qh he;have HSr:Hid (SmallR r):=HS.o (ct,r) (by rw [← HM.o];exact List.mem_map.2 ⟨_,List.mem_of_getElem? he,rfl⟩);have hjI:(j:Int)<((es lang).length:Int):=by omega
  have hj0:(0:Int)≤(j:Int):=by omega
  clear hc hR c0 c1 he;go_upto_region 5 with fail;have hal:Below wo.heap.size wo (wo.alloc (.cells #[.string ⟨ct.toArray⟩,.slice RA rn rc] 130)):=(Below.refl _ _).alloc ql _;have hbo:=HB.o.trans (hal.mono HB.o.size);refine wp_letter (fun wx=>Blk wx wo.heap.size 130 [.string ⟨ct.toArray⟩,.slice RA rn rc]∧RuleIs wx RA rn rc r∧OpR wx ob oA on oc oB om od iA il ic fA fl fc' tA tl tc' k (10 ^ S) q (k / 10 ^ S) S (short k S).2 (k % 10 ^ S) ((short k S).1 % 10 ^ (short k S).2)∧Blk wx g6 39 [.bool ob,.slice oA on oc,.slice oB om od,.slice iA il ic,.int .i64 (S:Nat),.int .i64 ((short k S).2:Nat),.slice fA fl fc',.slice tA tl tc']∧Below w3.heap.size w3 wx) ⟨Blk.made _ 130 _ _ _ rfl rfl,HR.o.below hal ql,OP.o.below hbo ql,O6.o.below hbo O6.o.lt,hbo⟩ ?_;clear hal hbo;rintro wx ⟨x1,x2,x3,x4,x5⟩;have X1:=qh x1;have X2:=qh x2;have X3:=qh x3;have X5:=qh x5;have HGX:=qh (HG.o.below (HB3.o.trans (x5.mono HB3.o.size)) ql);obtain ⟨m0,m1⟩:=x1.c2;obtain ⟨d0,d1,d2,d3,d4,d5,d6,d7⟩:=x4.c8;generalize wo.heap.size=g9 at *
  clear x1 x2 x3 x4 x5 q0 q1;go_wp2_with fail;refine (rule_Holds wx RA rn rc r HGX.o X2.o HSr.o _ _ _ _ _ _ _ _ _ _ _ _ _ _ _ _ _ _ _ _ _ _ _ _ X3.o (by omega) (by omega)).mono ?_;rw [HV.o];rintro e w5 ⟨rfl,hb5⟩;have HB5:=qt X5 hb5;have X6:=qh (X1.o.below hb5 X1.o.lt);clear hb5 m0 m1 d0 d1 d2 d3 d4 d5 d6 d7;have m0:=X6.o.c1;rcases Bool.eq_false_or_eq_true (holdsV V r) with hv|hv
  ·rw [hv]
   have hsel:selectP m lang (ofVal k S)=ct:=by
    unfold selectP;rw [HVAL.o,HML.o,find_take (p:=fun e=>holdsV V e.2.2) HE.o hv HNO.o]
    rfl
   have HSEL:=qh hsel;clear hsel hv;dsimp only;go_wp2_with fail;go_ret
   exact ⟨by rw [HSEL.o];rfl,HB3.o.trans (HB5.o.mono HB3.o.size)⟩
  ·rw [hv];have HVF:=qh hv;clear hv m0;dsimp only;go_wp2_with fail;go_roundw
   case rel =>
    refine ⟨j+1,by omega,by go_num,fun e' he'=>?_,HB5.o⟩;rw [List.take_add_one,HE.o] at he';rcases List.mem_append.1 he' with h|h
    ·exact HNO.o e' h
    ·obtain rfl:e'=(ct,rv,r):=by simpa using h
     exact HVF.o
   case measure=>simp [intOf];omega
def ofP (m:PMap) (lang:Bs):List Bs:=(m lang).map (·.1) ++ [wOther]
theorem plural_Of (w:World) (gp:Nat) (m:PMap) (lang:Bs) (hP:PlW w gp m) (hlang:lang.length≤maxLen) :
  Calls Tryz.prog 35 #[.pointer (some ⟨gp,0,none⟩),.string ⟨lang.toArray⟩] w fun e w'=>∃ v,e=.returned v∧OwnS w' w.heap.size v (ofP m lang)∧Below w.heap.size w w':=by
 obtain ⟨i9,hi9,hz90,hz91,hz92⟩:=info_parts Tryz_info9;obtain ⟨gm,n0,W,f,es,hp,hI,hm,hn,-⟩:=hP;have HI:=qh hI;have HM:=qh hm;have hlook:=hI.map.look lang hlang;obtain ⟨LA,lc,hlf,-⟩:=SlC.own (hI.row lang);have HLF:=qh hlf;have hel:=hI.few lang;have helI:((es lang).length:Int)≤1000:=by omega
 have hmx:=maxLen_ge;rw [hlf] at hlook;clear hI hm hlf;go_enter Tryz.func35,Tryz.ntmps35;go_wp2_with fail;clear hlook hp;go_loopw [5,15] (fun v i wr=>∃ j:Nat,j≤(es lang).length∧i=.int .i64 j∧OwnS wr w.heap.size v (((es lang).take j).map (·.1))∧Below w.heap.size w wr) (fun _ i _=>(es lang).length - (intOf i).toNat)
 case atStart=>exact ⟨0,Nat.zero_le _,rfl,World.ownsRow_nil _ _ _ _,Below.refl _ _⟩
 case round =>
  obtain ⟨j,hj,rfl,ho,hb⟩:=hrel;have HO:=qh ho;have HB:=qh hb;have hsz:=hb.size;clear ho hb;obtain ⟨wo,rfl⟩:∃ wo:World,wo=wr:=⟨_,rfl⟩;by_cases hlt:j<(es lang).length
  case neg =>
   have hjI:¬ (j:Int)<((es lang).length:Int):=by omega
   obtain ⟨acc,hacc⟩:∃ acc:List Bs,acc=((es lang).take j).map (·.1):=⟨_,rfl⟩
   have hof:ofP m lang=acc ++ [wOther]:=by
    rw [hacc,List.take_of_length_le (by omega)];unfold ofP;rw [← HM.o];unfold contents;rw [List.map_map];rfl
   have hal:acc.length≤1000:=by rw [hacc];simp;omega
   rw [← hacc] at HO;have HOF:=qh hof;clear hof hacc;go_wp2_with (at_builtin;refine wpList_append_lies _ (by rfl) _ _ 54 (by rfl) w.heap.size 9 i9 (.string ByteArray.empty) 1 16 Tryz.underlying54 hi9 hz90 hz91 hz92 rfl (by decide) _ acc.length (strs acc) (by rfl) (World.ownsRow.alloc HO.o _) ⟨wo.heap.size,0,none⟩ 1 1 [.string ⟨wOther.toArray⟩] (by rfl) rfl (cell_one_new _ _ _) (by simp [Value.oneCell']) (by omega) (by omega) (by omega) (by simp;omega) (wo.heap.size+1) (by simp) ?_;intro g' cap' w1 hown hgrow hat hlt';have HO7:=qh hown;have HG7:=qh hgrow;clear hown hgrow hat)
   go_ret
   exact ⟨_,rfl,by rw [HOF.o];exact ownS_push HO7.o,below_grown (HB.o.alloc HB.o.size _) HG7.o (Nat.le_trans HB.o.size (by simp)) (fun j hj=>(World.ownsRow.lt HO.o j hj).1)⟩
  obtain ⟨pb,po,rfl,hc⟩:=HI.o.at lang HLF.o (by omega);obtain ⟨⟨ct,rv,r⟩,he⟩:∃ e,(es lang)[j]?=some e:=⟨(es lang)[j],List.getElem?_eq_getElem hlt⟩;obtain ⟨RA,rn,rc,-,c0,c1⟩:=hc j _ he;dsimp only at c0;have q0:wo.cell? ⟨pb,po+j * 2,none⟩=some (.string ⟨ct.toArray⟩):=(HB.o.cell (World.block_lt_of_cell? w _ c0)).trans c0;have q1:wo.cell? ⟨pb,po+j * 2+1,none⟩=some (.slice RA rn rc):=(HB.o.cell (World.block_lt_of_cell? w _ c1)).trans c1;have hjI:(j:Int)<((es lang).length:Int):=by omega
  have hj0:(0:Int)≤(j:Int):=by omega
  obtain ⟨acc,hacc⟩:∃ acc:List Bs,acc=((es lang).take j).map (·.1):=⟨_,rfl⟩;have hnx:((es lang).take (j+1)).map (·.1)=acc ++ [ct]:=by rw [List.take_add_one,he,List.map_append,hacc];rfl
  have hal:acc.length≤1000:=by rw [hacc];simp;omega
  rw [← hacc] at HO;have HN:=qh hnx;clear hc c0 c1 he hacc hnx;go_upto_region 5 with fail;refine wp_letter (fun wx=>Blk wx wo.heap.size 130 [.string ⟨ct.toArray⟩,.slice RA rn rc]∧OwnS wx w.heap.size u5 acc∧Below w.heap.size w wx) ⟨Blk.made _ 130 _ _ _ rfl rfl,HO.o.alloc _,HB.o.alloc HB.o.size _⟩ ?_;rintro wx ⟨x1,x2,x3⟩;have X2:=qh x2;have X3:=qh x3;have hsx:=x3.size;obtain ⟨m0,m1⟩:=x1.c2;generalize wo.heap.size=g9 at *
  clear x1 x2 x3 q0 q1;go_wp2_with (at_builtin;refine wpList_append_lies _ (by rfl) _ _ 54 (by rfl) w.heap.size 9 i9 (.string ByteArray.empty) 1 16 Tryz.underlying54 hi9 hz90 hz91 hz92 rfl (by decide) _ acc.length (strs acc) (by rfl) (World.ownsRow.alloc X2.o _) ⟨wx.heap.size,0,none⟩ 1 1 [.string ⟨ct.toArray⟩] (by rfl) rfl (cell_one_new _ _ _) (by simp [Value.oneCell']) (by omega) (by omega) (by omega) (by simp;omega) (wx.heap.size+1) (by simp) ?_;intro g' cap' w1 hown hgrow hat hlt';have HO7:=qh hown;have HG7:=qh hgrow;clear hown hgrow hat)
  go_roundw
  case rel=>exact ⟨j+1,by omega,by go_num,by rw [HN.o];exact ownS_push HO7.o,below_grown (X3.o.alloc X3.o.size _) HG7.o (Nat.le_trans X3.o.size (by simp)) (fun j hj=>(World.ownsRow.lt X2.o j hj).1)⟩
  case measure=>simp [intOf];omega
def enB:Bs:=[112,108,117,114,97,108,32,101,110,32,111,110,101,32,105,32,61,32,49,32,97,110,100,32,118,32,61,32,48,10,112,108,117,114,97,108,32,114,117,32,111,110,101,32,118,32,61,32,48,32,97,110,100,32,105,32,37,32,49,48,32,61,32,49,32,97,110,100,32,105,32,37,32,49,48,48,32,33,61,32,49,49,10,112,108,117,114,97,108,32,114,117,32,102,101,119,32,118,32,61,32,48,32,97,110,100,32,105,32,37,32,49,48,32,61,32,50,46,46,52,32,97,110,100,32,105,32,37,32,49,48,48,32,33,61,32,49,50,46,46,49,52,10,112,108,117,114,97,108,32,114,117,32,109,97,110,121,32,118,32,61,32,48,10]
def wEn:Bs:=[101,110]
def wOne:Bs:=[111,110,101]
def goodLine (l:Bs):Bool:=decide (Lib.idxFunc oddP true ⟨l.toArray⟩=-1) && decide ((lineP l).length≤24)
def goodText (t:Bs):Bool:=decide (t.length≤60000) && (decide ((splitG 10 t).length≤1000) && ((splitG 10 t).all goodLine && (decide ((rowsP t).length≤1000) && (rowsP t).all fun r=>decide (r.2.length≤1000) && r.2.all fun x=>decide (x.length≤100000))))
theorem good_enB:goodText enB=true:=by decide +kernel
def enM:PMap:=(loadAll (rowsP enB)).2.2
theorem en_code:(loadAll (rowsP enB)).1=0:=by decide +kernel
theorem en_en:enM wEn=[(wOne,exRule)]:=by decide +kernel
structure GoodM (m:PMap):Prop where
 small:∀ k,∀ e ∈ m k,SmallR e.2
 cat:∀ k,∀ e ∈ m k,catP e.1=true
theorem GoodM.nil:GoodM (fun _=>[]):=⟨fun k e he=>(by cases he),fun k e he=>(by cases he)⟩
theorem GoodM.put {m:PMap} {ws:List Bs} (h:GoodM m) (h0:(rowCode m ws).1=0):GoodM (rowPut m ws):=by
 have key:SmallR (rowCode m ws).2∧catP (ws.getD 1 [])=true:=by
  unfold rowCode at h0 ⊢
  repeat' split at h0
  all_goals first|(exfalso;simp at h0;done)|skip
  ·exfalso;rename_i hne;exact hne h0
  ·rename_i h1 h2 h3 h4 h5 h6;rw [if_neg h1,if_neg h2,if_neg h3,if_neg h4,if_neg h5,if_neg h6];refine ⟨?_,by simpa using h3⟩;rcases parseR_cases (Lib.join (ws.drop 2) [32]) with ⟨r,hr1,hr2⟩|⟨e,hr1,hr2⟩
   ·rw [hr1];exact hr2
   ·rw [hr1];exact smallR_nil
 have mem:∀ k e,e ∈ rowPut m ws k→e ∈ m k∨e=(ws.getD 1 [],(rowCode m ws).2):=fun k e he=>by
  unfold rowPut at he;split at he
  ·rcases List.mem_append.1 he with h'|h'
   ·exact .inl h'
   ·exact .inr (List.mem_singleton.1 h')
  ·exact .inl he
 refine ⟨fun k e he=>?_,fun k e he=>?_⟩
 ·rcases mem k e he with h'|rfl
  ·exact h.small k e h'
  ·exact key.1
 ·rcases mem k e he with h'|rfl
  ·exact h.cat k e h'
  ·exact key.2
theorem GoodM.load:∀ (L:List Rw) {m:PMap},GoodM m→GoodM (loadP m L).2.2
 | [],m,h=>h
 | r :: rs,m,h=>by
  unfold loadP;split
  ·rename_i h0;exact GoodM.load rs (h.put h0)
  ·exact h
theorem goodM_all (L:List Rw):GoodM (loadAll L).2.2:=GoodM.load _ GoodM.nil
theorem plural_SelectS (w:World) (gp:Nat) (m:PMap) (lang:Bs) (b:Bool) (A:Option Addr) (n c k s q:Nat) (hG:GW w) (hP:PlW w gp m) (hM:GoodM m) (hlang:lang.length≤maxLen)
  (h:SN w A n c k) (hs:s≤60) (hb:b=true→0<k) (hk:k<2 ^ q) (hq:200≤q) (hq2:q≤40000) :
  Calls Tryz.prog 31 #[.pointer (some ⟨gp,0,none⟩),.string ⟨lang.toArray⟩,.agg #[.bool b,.slice A n c,.int .i64 (s:Nat)]] w fun e w'=>e=.returned (.string ⟨(selectP m lang (ofVal k s)).toArray⟩)∧Below w.heap.size w w':=by
 have hg:=goodD_sn hs hb;have e1:decK b (wordsOf k) (s:Nat)=k:=by unfold decK;rw [if_pos hg,val_wordsOf]
 have e2:decS b (wordsOf k) (s:Nat)=s:=by unfold decS;rw [if_pos hg];simp
 have:=plural_Select w gp m lang b A n c (wordsOf k) (s:Nat) q hG hP (hM.small lang) hlang h (big_pow hk (by omega)) (by rw [e1];exact hk) hq hq2;rw [e1,e2] at this;exact this
theorem law_english (w:World):Calls Tryz.prog 30 #[] w fun e w'=>e=.returned (.string ⟨enB.toArray⟩)∧Below w.heap.size w w':=by
 go_enter Tryz.func30,Tryz.ntmps30;go_wp2_with fail;go_ret
 exact ⟨rfl,Below.refl _ _⟩
theorem law_load (w:World) (t:Bs) (hG:GW w) (ht:goodText t=true):Calls Tryz.prog 29 #[.string ⟨t.toArray⟩] w (LoadPost w (rowsP t)):=by
 simp only [goodText,Bool.and_eq_true,decide_eq_true_eq,List.all_eq_true] at ht;obtain ⟨h1,h2,h3,h4,h5⟩:=ht;have HG:=qh hG;have H5:=qh h5;have H3:Hid (∀ l ∈ splitG 10 t,GoodLine l):=fun l hl=>by have:=h3 l hl;simpa [goodLine,GoodLine] using this
 clear hG h5 h3;go_enter Tryz.func29,Tryz.ntmps29;go_wp2_with fail;refine (rows_Parse w t HG.o h1 h2 H3.o).mono ?_;rintro e w2 ⟨A,n,c,rfl,hr,hb⟩;have HR:=qh hr;have HB:=qh hb;clear hr hb;dsimp only;go_wp2_with fail;refine (plural_Load w2 A n c (rowsP t) (HG.o.below HB.o ql) HR.o h4 H5.o).mono ?_;rintro e w3 ⟨hc,hb3⟩;have HB3:=qt HB hb3;clear hb3;rcases hc with ⟨hne,rfl⟩|⟨h0,gp,rfl,hP,hgp⟩
 ·have HNE:=qh hne;clear hne;dsimp only;go_wp2_with fail;refine bodyPost_ret (v:=.tuple #[.pointer none,.int .i64 (loadAll (rowsP t)).2.1,.int .i64 ((loadAll (rowsP t)).1:Nat)]) (by simp [results,Tryz.results29,go_sem];try rfl) rfl ?_;exact ⟨.inl ⟨HNE.o,rfl⟩,HB3.o⟩
 ·have H0:=qh h0;have HP:=qh hP;clear h0 hP;dsimp only;go_wp2_with fail;refine bodyPost_ret (v:=.tuple #[.pointer (some ⟨gp,0,none⟩),.int .i64 0,.int .i64 0]) (by simp [results,Tryz.results29,go_sem];try rfl) rfl ?_;exact ⟨.inr ⟨H0.o,gp,rfl,HP.o,Nat.lt_of_le_of_lt HB.o.size hgp⟩,HB3.o⟩
set_option exponentiation.threshold 5000 in
theorem law_of (w:World) (gp:Nat) (m:PMap) (lang s:Bs) (hG:GW w) (hP:PlW w gp m) (hM:GoodM m) (hlang:lang.length≤maxLen) :
  Calls Tryz.prog 33 #[.pointer (some ⟨gp,0,none⟩),.string ⟨lang.toArray⟩,.string ⟨s.toArray⟩] w fun e w'=>e=.returned (.string ⟨(selectP m lang (ofVal (parseD s).2.2.1 (parseD s).2.2.2)).toArray⟩)∧Below w.heap.size w w':=by
 have HG:=qh hG;have HP:=qh hP;clear hG hP
 obtain ⟨b,k,S,cd,hd,hS,hb,hk⟩:∃ b k S cd,parseD s=(cd,b,k,S)∧S≤60∧(b=true→0<k)∧k<2 ^ (4 * 512):=by
  rcases parseD_cases s with ⟨b,k,sc,h3,hs,hb,hk⟩|⟨e,h3,h4⟩
  ·exact ⟨b,k,sc,0,h3,hs,hb,hk⟩
  ·exact ⟨false,0,0,e,h3,by omega,(fun h=>by cases h),Nat.pow_pos (by omega)⟩
 have HD:=qh hd;have HK:=qh hk;have HBK:=qh hb;rw [hd];clear hd hk hb;go_enter Tryz.func33,Tryz.ntmps33;go_wp2_with fail;refine (dec_Parse w s HG.o).mono ?_;unfold ParseDP;rw [HD.o];rintro e w2 ⟨⟨A,n,c,rfl,hx⟩,hb2⟩;have hal:Below w2.heap.size w2 (w2.alloc (.cells #[.bool b,.slice A n c,.int .i64 (S:Nat)] 26)):=(Below.refl _ _).alloc ql _;have hbb:=hb2.trans (hal.mono hb2.size);have X1:=qh (hx.below hal ql);have X2:=qh (HP.o.below hbb);have X3:=qh hbb;have X4:=qh (Blk.made w2 26 [.bool b,.slice A n c,.int .i64 (S:Nat)] w2.heap.size #[.bool b,.slice A n c,.int .i64 (S:Nat)] rfl rfl);clear hal hbb hx hb2;dsimp only;go_upto_region 2 with fail;refine wp_letter (fun w3=>SN w3 A n c k∧PlW w3 gp m∧Below w.heap.size w w3∧Blk w3 w2.heap.size 26 [.bool b,.slice A n c,.int .i64 (S:Nat)]) ⟨X1.o,X2.o,X3.o,X4.o⟩ ?_;clear X1 X2 X3 X4;rintro w3 ⟨x1,x2,x3,x4⟩;have X1:=qh x1;have X2:=qh x2;have X3:=qh x3;obtain ⟨m0,m1,m2⟩:=x4.c3;generalize w2.heap.size=g7 at *
 clear x1 x2 x3 x4;go_wp2_with fail;refine (plural_SelectS w3 gp m lang b A n c k S (4 * 512) (HG.o.below X3.o ql) X2.o hM hlang X1.o hS HBK.o HK.o (by omega) (by omega)).mono ?_;rintro e w4 ⟨rfl,hb4⟩;have HB4:=qt X3 hb4;clear hb4 m0 m1 m2;dsimp only;go_wp2_with fail;go_ret
 exact ⟨rfl,HB4.o⟩
def v4:List Nat→Nat
 | []=>0
 | x :: l=>x+10000 * v4 l
def W4 (l:List Nat):Prop:=∀ x ∈ l,x<10000
def d4 (k:Nat):List Nat:=if k=0 then [] else k % 10000 :: d4 (k / 10000)
termination_by k
decreasing_by omega
theorem d4_zero:d4 0=[]:=by unfold d4;rfl
theorem d4_pos {k:Nat} (h:k≠0):d4 k=k % 10000 :: d4 (k / 10000):=by rw [d4,if_neg h]
theorem v4_d4 (k:Nat):v4 (d4 k)=k:=by
 induction k using Nat.strongRecOn with
 | _ k ih =>
  by_cases h:k=0
  ·subst h;rw [d4_zero];rfl
  ·rw [d4_pos h,v4,ih _ (by omega)];omega
theorem w4_d4 (k:Nat):W4 (d4 k):=by
 induction k using Nat.strongRecOn with
 | _ k ih =>
  by_cases h:k=0
  ·subst h;rw [d4_zero];intro x hx;cases hx
  ·rw [d4_pos h];intro x hx;rcases List.mem_cons.1 hx with rfl|hx
   ·omega
   ·exact ih _ (by omega) x hx
theorem v4_app:∀ (a b:List Nat),v4 (a ++ b)=v4 a+10000 ^ a.length * v4 b
 | [],b=>by simp [v4]
 | x :: a,b=>by
  simp only [List.cons_append,v4,v4_app a b,List.length_cons,Nat.pow_succ];rw [Nat.mul_add,Nat.add_assoc,← Nat.mul_assoc,Nat.mul_comm 10000 (10000 ^ a.length)]
theorem v4_lt:∀ {l:List Nat},W4 l→v4 l<10000 ^ l.length
 | [],_=>by simp [v4]
 | x :: l,h=>by
  have h1:=h x (by simp);have h2:=v4_lt (l:=l) (fun y hy=>h y (by simp [hy]));simp only [v4,List.length_cons,Nat.pow_succ];omega
def trim4 (l:List Nat):List Nat:=if l=[] then [] else if l.getLast?=some 0 then trim4 l.dropLast else l
termination_by l.length
decreasing_by
 rw [List.length_dropLast];have:0<l.length:=List.length_pos_iff.2 ‹_›;omega
def Canon4 (l:List Nat):Prop:=l.getLast?≠some 0
theorem trim_form (l:List Nat):Canon4 (trim4 l)∧(trim4 l).length≤l.length∧v4 (trim4 l)=v4 l∧(W4 l→W4 (trim4 l)):=by
 induction hn:l.length using Nat.strongRecOn generalizing l with
 | _ n ih =>
  subst hn;unfold trim4;split
  ·rename_i h;subst h;exact ⟨by simp [Canon4],by simp,rfl,fun h=>h⟩
  ·rename_i h;split
   ·rename_i h0
    have hl:l=l.dropLast ++ [0]:=by
     have h1:=List.dropLast_concat_getLast h;have h2:=List.getLast?_eq_some_getLast h;rw [h2] at h0;rw [Option.some.inj h0] at h1;exact h1.symm
    have hlt:l.dropLast.length<l.length:=by rw [List.length_dropLast];have:=List.length_pos_iff.2 h;omega
    obtain ⟨h1,h2,h3,h4⟩:=ih _ hlt l.dropLast rfl;refine ⟨h1,by omega,?_,fun hw=>h4 fun x hx=>hw x (List.dropLast_subset l hx)⟩;rw [h3]
    conv=>rhs;rw [hl,v4_app]
    simp [v4]
   ·rename_i h0;exact ⟨h0,ql,rfl,fun h=>h⟩
theorem canon_d4 {l:List Nat} (hw:W4 l) (hc:Canon4 l):d4 (v4 l)=l:=by
 induction l with
 | nil=>exact d4_zero
 | cons x l ih =>
  have hx:=hw x (by simp);by_cases hl:l=[]
  ·subst hl;have:x≠0:=fun e=>hc (by simp [e]);simp only [v4,Nat.mul_zero,Nat.add_zero];rw [d4_pos this,show x / 10000=0 by omega,d4_zero,Nat.mod_eq_of_lt hx]
  ·have hc':Canon4 l:=fun e=>hc (by rw [List.getLast?_cons_of_ne_nil hl];exact e)
   have hpos:v4 l≠0:=fun e=>by
    have:=ih (fun y hy=>hw y (by simp [hy])) hc';rw [e,d4_zero] at this;exact hl this.symm
   have h1:v4 (x :: l)≠0:=by simp only [v4];omega
   rw [d4_pos h1];simp only [v4];rw [show (x+10000 * v4 l) % 10000=x by omega,show (x+10000 * v4 l) / 10000=v4 l by omega,ih (fun y hy=>hw y (by simp [hy])) hc']
theorem trim_d4 {l:List Nat} (hw:W4 l):trim4 l=d4 (v4 l):=by
 obtain ⟨h1,-,h3,h4⟩:=trim_form l;rw [← h3,canon_d4 (h4 hw) h1]
theorem canon_of_d4 (k:Nat):Canon4 (d4 k):=by
 have h:=trim_form (d4 k);have e:=trim_d4 (w4_d4 k);rw [v4_d4] at e;rw [← e];exact h.1
theorem d4_len {k n:Nat} (h:k<10000 ^ n):(d4 k).length≤n:=by
 induction n generalizing k with
 | zero =>
  have:k=0:=by simp at h;omega
  subst this;rw [d4_zero];simp
 | succ n ih =>
  by_cases h0:k=0
  ·subst h0;rw [d4_zero];simp
  ·rw [d4_pos h0,List.length_cons];have:=ih (k:=k / 10000) (by rw [Nat.pow_succ] at h;omega);omega
end Go.Proofs.YtdgleeglndcjhaaGreatDoor
