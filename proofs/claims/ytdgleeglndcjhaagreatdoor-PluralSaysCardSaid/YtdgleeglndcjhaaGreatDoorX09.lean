import Derived.Test.YtdgleeglndcjhaaGreatDoorX08
set_option linter.unusedSimpArgs false
set_option linter.unusedVariables false
set_option maxHeartbeats 16000000
set_option maxRecDepth 100000
namespace Go.Proofs.YtdgleeglndcjhaaGreatDoor
open Go.RowKit
def lineW:List Bs→List Bs
 | []=>[]
 | w :: ws=>if Lib.hasPrefix w [35]=true then [] else if w=[] then lineW ws else w :: lineW ws
theorem OwnS.mono {w:World} {B B':Nat} {x:Value} {ws:List Bs} (h:OwnS w B x ws) (hB:B'≤B):OwnS w B' x ws:=⟨h.1,h.2.imp id fun ⟨g,cap,cur,e,hb,r⟩=>⟨g,cap,cur,e,Nat.le_trans hB hb,r⟩⟩
def lineP (s:Bs):List Bs:=lineW (splitG 32 s)
theorem drop_at {α:Type} {l:List α} {k:Nat} {x:α} (h:l[k]?=some x):l.drop k=x :: l.drop (k+1):=by
 obtain ⟨hk,rfl⟩:=List.getElem?_eq_some_iff.1 h;exact List.drop_eq_getElem_cons hk
def WordsI (ws:List Bs) (W:World) (v i:Value) (wr:World):Prop :=
 ∃ (k:Nat) (acc:List Bs),k≤ws.length∧i=.int .i64 k∧OwnS wr W.heap.size v acc∧acc ++ lineW (ws.drop k)=lineW ws∧acc.length≤k∧Below W.heap.size W wr
theorem rows_words (w:World) (s:Bs) (hG:GW w) (hs:s.length≤100000) :
  Calls Tryz.prog 116 #[.string ⟨s.toArray⟩] w fun e w'=>∃ v,e=.returned v∧OwnS w' w.heap.size v (lineP s)∧Below w.heap.size w w':=by
 have HG:=qh hG;obtain ⟨i9,hi9,hz90,hz91,hz92⟩:=info_parts Tryz_info9;clear hG;go_enter Tryz.func116,Tryz.ntmps116;go_wp2_with fail;refine (str_split ⟨s.toArray⟩ 32 w HG.o (by rw [Lib.size_eq];show s.length≤1000000;omega)).mono ?_;rw [show (⟨s.toArray⟩:ByteArray).data.toList=s from rfl];have hwl:=splitG_length 32 s;have HWP:Hid (lineP s=lineW (splitG 32 s)):=rfl;generalize splitG 32 s=ws at *
 rintro e W ⟨⟨A,n,c,rfl,hS⟩,hb⟩;obtain rfl:n=ws.length:=hS.len;have HS:=qh hS;have HB:=qh hb;have hlI:(ws.length:Int)≤100001:=by omega
 have hmx:=maxLen_ge;clear hS hb;dsimp only;go_wp2_with fail;go_loopw [3,9] (fun v i wr=>WordsI ws W v i wr) (fun _ i _=>ws.length - (intOf i).toNat)
 case atStart=>exact ⟨0,[],Nat.zero_le _,rfl,World.ownsRow_nil _ _ _ _,rfl,ql,Below.refl _ _⟩
 case round =>
  obtain ⟨k,acc,hk,rfl,ho,hacc,hal,hbr⟩:=hrel;have HO:=qh ho;have HACC:=qh hacc;have HBR:=qh hbr;have hsz:=hbr.size;clear ho hacc hbr;by_cases hlt:k<ws.length
  case neg =>
   have hkI:¬ (k:Int)<(ws.length:Int):=by omega
   have hfin:acc=lineP s:=by have h:=HACC.o;rw [List.drop_eq_nil_of_le (by omega)] at h;rw [HWP.o,← h];simp [lineW]
   have HF:=qh hfin;clear hfin;go_wp2_with fail;go_ret
   exact ⟨_,rfl,by rw [← HF.o];exact OwnS.mono HO.o HB.o.size,HB.o.trans (HBR.o.mono HB.o.size)⟩
  obtain ⟨b,o,rfl,hc⟩:=HS.o.at (by omega);obtain ⟨t,ht⟩:∃ t,ws[k]?=some t:=⟨ws[k],List.getElem?_eq_getElem hlt⟩;have k0:wr.cell? ⟨b,o+k,none⟩=some (.string ⟨t.toArray⟩):=(HBR.o.cell (World.block_lt_of_cell? W _ (hc k t ht))).trans (hc k t ht);have HD:=qh (drop_at ht);have hkI:(k:Int)<(ws.length:Int):=by omega
  have hk0:(0:Int)≤(k:Int):=by omega
  clear hc ht;obtain ⟨wo,rfl⟩:∃ wo:World,wo=wr:=⟨_,rfl⟩;go_wp2_with fail;refine (Tryz.strings_HasPrefix ⟨t.toArray⟩ ⟨#[35]⟩ wo).mono ?_;rw [show (⟨t.toArray⟩:ByteArray).data.toList=t from rfl,show (⟨#[35]⟩:ByteArray).data.toList=([35]:Bs) from rfl];rintro e w1 ⟨rfl,h1⟩;subst w1;rcases Bool.eq_false_or_eq_true (Lib.hasPrefix t [35]) with hp|hp
  ·rw [hp];have hfin:acc=lineP s:=by have h:=HACC.o;rw [HD.o,lineW,if_pos hp] at h;rw [HWP.o,← h];simp
   have HF:=qh hfin;clear hfin hp;dsimp only;go_wp2_with fail;go_ret
   exact ⟨_,rfl,by rw [← HF.o];exact OwnS.mono HO.o HB.o.size,HB.o.trans (HBR.o.mono HB.o.size)⟩
  rw [hp];have HP:=qh hp;clear hp;dsimp only;by_cases he:t=[]
  ·have hte:t.isEmpty=true:=by rw [he];rfl
   have hnx:acc ++ lineW (ws.drop (k+1))=lineW ws:=by have h:=HACC.o;rw [HD.o,lineW,if_neg (by rw [HP.o];simp),if_pos he] at h;exact h
   have HN:=qh hnx;clear hnx he;go_wp2_with fail;go_roundw
   case rel=>exact ⟨k+1,acc,by omega,by go_num,HO.o,HN.o,by omega,HBR.o⟩
   case measure=>simp [intOf];omega
  ·have hte:t.isEmpty=false:=by simpa using he
   have hnx:(acc ++ [t]) ++ lineW (ws.drop (k+1))=lineW ws:=by have h:=HACC.o;rw [HD.o,lineW,if_neg (by rw [HP.o];simp),if_neg he] at h;rw [← h];simp
   have HN:=qh hnx;clear hnx he k0;go_wp2_with (at_builtin;refine wpList_append_lies _ (by rfl) _ _ 54 (by rfl) W.heap.size 9 i9 (.string ByteArray.empty) 1 16 Tryz.underlying54 hi9 hz90 hz91 hz92 rfl (by decide) _ acc.length (strs acc) (by rfl) (World.ownsRow.alloc HO.o _) ⟨wo.heap.size,0,none⟩ 1 1 [.string ⟨t.toArray⟩] (by rfl) rfl (cell_one_new _ _ _) (by simp [Value.oneCell']) (by omega) (by omega) (by omega) (by simp;omega) (wo.heap.size+1) (by simp) ?_;intro g' cap' w1 hown hgrow hat hlt';have HO7:=qh hown;have HG7:=qh hgrow;clear hown hgrow hat)
   go_roundw
   case rel=>exact ⟨k+1,acc ++ [t],by omega,by go_num,ownS_push HO7.o,HN.o,by simp;omega,below_grown (HBR.o.alloc HBR.o.size _) HG7.o (Nat.le_trans HBR.o.size (by simp)) (fun j hj=>(World.ownsRow.lt HO.o j hj).1)⟩
   case measure=>simp [intOf];omega
def oddP (r:Nat):Bool:=decide (r<32) || decide (126<r)
theorem rows_odd (w:World) (r:Nat):Calls Tryz.prog 118 #[.int .i32 (r:Int)] w fun e w'=>e=.returned (.bool (oddP r))∧w'=w:=by
 by_cases h1:r<32
 ·have hI:(r:Int)<32:=by omega
  have HO:=qh (show oddP r=true by unfold oddP;simp [h1]);clear h1;go_enter Tryz.func118,Tryz.ntmps118;go_wp2_with fail;go_ret
  exact ⟨by rw [HO.o];rfl,rfl⟩
 ·have hI:¬ (r:Int)<32:=by omega
  by_cases h2:126<r
  ·have hI2:(126:Int)<(r:Int):=by omega
   have HO:=qh (show oddP r=true by unfold oddP;simp [h2]);clear h1 h2;go_enter Tryz.func118,Tryz.ntmps118;go_wp2_with fail;go_ret
   exact ⟨by rw [HO.o];rfl,rfl⟩
  ·have hI2:¬ (126:Int)<(r:Int):=by omega
   have HO:=qh (show oddP r=false by unfold oddP;simp [h1,h2]);clear h1 h2;go_enter Tryz.func118,Tryz.ntmps118;go_wp2_with fail;go_ret
   exact ⟨by rw [HO.o];rfl,rfl⟩
def cells2:List (Value × Value)→List Value
 | []=>[]
 | e :: es=>e.1 :: e.2 :: cells2 es
theorem cells2_len:∀ es,(cells2 es).length=es.length * 2
 | []=>rfl
 | e :: es=>by simp only [cells2,List.length_cons,cells2_len es];omega
theorem cells2_snoc:∀ (es:List (Value × Value)) (e:Value × Value),cells2 (es ++ [e])=cells2 es ++ [e.1,e.2]
 | [],e=>rfl
 | a :: es,e=>by simp only [List.cons_append,cells2,cells2_snoc es e]
theorem cells2_at:∀ (es:List (Value × Value)) (j:Nat) (e:Value × Value),es[j]?=some e→(cells2 es)[j * 2]?=some e.1∧(cells2 es)[j * 2+1]?=some e.2
 | [],j,e,h=>by simp at h
 | a :: es,0,e,h=>by
  obtain rfl:a=e:=by simpa using h
  exact ⟨rfl,rfl⟩
 | a :: es,j+1,e,h=>by
  have:=cells2_at es j e (by simpa using h);rw [show (j+1) * 2=j * 2+1+1 by omega];simp only [cells2,M3];exact this
abbrev Rw:=Int × List Bs
abbrev Re:=Int × List Bs × Value
def rcell (e:Re):Value × Value:=(.int .i64 e.1,e.2.2)
def rrow (e:Re):Rw:=(e.1,e.2.1)
def RowsIs (w:World) (A:Option Addr) (n c:Nat) (L:List Rw):Prop :=
 ∃ es:List Re,es.map rrow=L∧SlC w (.slice A n c) 2 es.length (cells2 (es.map rcell))∧∀ e ∈ es,∃ A n c,e.2.2=.slice A n c∧StrsAre w A n c e.2.1
theorem RowsIs.below {w w':World} {A:Option Addr} {n c B:Nat} {L:List Rw} (h:RowsIs w A n c L) (hb:Below B w w') (hB:w.heap.size≤B):RowsIs w' A n c L:=by
 obtain ⟨es,h1,h2,h3⟩:=h;exact ⟨es,h1,h2.below hb hB,fun e he=>by obtain ⟨A,n,c,e1,h4⟩:=h3 e he;exact ⟨A,n,c,e1,h4.below hb hB⟩⟩
theorem RowsIs.len {w:World} {A:Option Addr} {n c:Nat} {L:List Rw} (h:RowsIs w A n c L):n=L.length:=by
 obtain ⟨es,rfl,⟨A',c',h1,-⟩,-⟩:=h;simpa using (Value.slice.inj h1).2.1
theorem RowsIs.at {w:World} {A:Option Addr} {n c:Nat} {L:List Rw} (h:RowsIs w A n c L) (h0:0<L.length):∃ b o,A=some ⟨b,o,none⟩∧∀ (j:Nat) (x:Rw),L[j]?=some x→∃ WA wn wc,StrsAre w WA wn wc x.2 ∧
  w.cell? ⟨b,o+j * 2,none⟩=some (.int .i64 x.1)∧w.cell? ⟨b,o+j * 2+1,none⟩=some (.slice WA wn wc):=by
 obtain ⟨es,rfl,⟨A',c',h1,h2,h3,h4⟩,h5⟩:=h;obtain ⟨b,o,h6,h7⟩:=h4 (by rw [cells2_len];simp at h0 ⊢;omega);obtain ⟨rfl,-,-⟩:=Value.slice.inj h1;refine ⟨b,o,h6,fun j x hx=>?_⟩;rw [List.getElem?_map] at hx;obtain ⟨e,he,rfl⟩:=Option.map_eq_some_iff.1 hx;obtain ⟨WA,wn,wc,e1,hW⟩:=h5 e (List.mem_of_getElem? he);have hc:=cells2_at (es.map rcell) j (rcell e) (by rw [List.getElem?_map,he];rfl);refine ⟨WA,wn,wc,hW,h7 _ _ hc.1,?_⟩;have:=h7 _ _ hc.2;rw [← Nat.add_assoc] at this;rw [this];simp [rcell,e1]
structure OwnRw (w:World) (B:Nat) (v:Value) (es:List Re):Prop where
 own:w.ownsRow B 132 2 v es.length (cells2 (es.map rcell))
 ok:∀ e ∈ es,(∃ A n c,e.2.2=.slice A n c∧StrsAre w A n c e.2.1)∧∀ k,e.2.2.ownBlock=some k→k<w.heap.size∧v.ownBlock≠some k
theorem OwnRw.nil (w:World) (B:Nat):OwnRw w B (.slice none 0 0) []:=⟨World.ownsRow_nil _ _ _ _,fun e h=>(by cases h)⟩
theorem OwnRw.below {w w':World} {B:Nat} {v:Value} {es:List Re} (h:OwnRw w B v es) (hb:Below w.heap.size w w'):OwnRw w' B v es :=
 ⟨own_kept_below h.own hb,fun e he=>by
  obtain ⟨⟨A,n,c,e1,h1⟩,h2⟩:=h.ok e he
  exact ⟨⟨A,n,c,e1,h1.below hb ql⟩,fun k hk=>⟨Nat.lt_of_lt_of_le (h2 k hk).1 hb.size,(h2 k hk).2⟩⟩⟩
theorem OwnRw.push {w w1:World} {B g cap:Nat} {v:Value} {es:List Re} {e:Re} (h:OwnRw w B v es) (he:(∃ A n c,e.2.2=.slice A n c∧StrsAre w A n c e.2.1)∧∀ k,e.2.2.ownBlock=some k→k<w.heap.size∧v.ownBlock≠some k)
  (hg:w.grownBy w1 v.ownBlock) (ho:w1.ownsRow B 132 2 (.slice (some ⟨g,0,none⟩) (es.length+1) cap) (es.length+1) (cells2 (es.map rcell) ++ [.int .i64 e.1,e.2.2])) (hat:v.ownBlock=some g∨g=w.heap.size) :
  OwnRw w1 B (.slice (some ⟨g,0,none⟩) (es.length+1) cap) (es ++ [e]):=by
 refine ⟨?_,fun e' he'=>?_⟩
 ·rw [List.map_append,List.length_append,show [e].map rcell=[rcell e] from rfl,cells2_snoc];exact ho
 ·have key:(∃ A n c,e'.2.2=.slice A n c∧StrsAre w A n c e'.2.1)∧∀ k,e'.2.2.ownBlock=some k→k<w.heap.size∧v.ownBlock≠some k:=by
   rcases List.mem_append.1 he' with h'|h'
   ·exact h.ok e' h'
   ·obtain rfl:=List.mem_singleton.1 h';exact he
  obtain ⟨⟨A,n,c,e1,h1⟩,h2⟩:=key;refine ⟨⟨A,n,c,e1,SlC.stable h1 fun k hk hlt=>hg.block k hlt (fun e=>(h2 k (by rw [e1];exact hk)).2 e.symm)⟩,fun k hk=>⟨Nat.lt_of_lt_of_le (h2 k hk).1 hg.size,fun e=>?_⟩⟩;obtain rfl:g=k:=by simpa [Value.ownBlock] using e
  rcases hat with h'|h'
  ·exact (h2 g hk).2 h'
  ·have:=(h2 g hk).1;omega
theorem OwnRw.is {w:World} {B:Nat} {v:Value} {es:List Re} (h:OwnRw w B v es):∃ A n c,v=.slice A n c∧RowsIs w A n c (es.map rrow):=by
 have h1:=SlC.own h.own;obtain ⟨A,c,rfl,-⟩:=h1;exact ⟨A,_,c,rfl,es,rfl,SlC.own h.own,fun e he=>(h.ok e he).1⟩
def rowsL:Nat→List Bs→List Rw
 | _,[]=>[]
 | i,l :: ls=>if lineP l=[] then rowsL (i+1) ls else ((i:Int)+1,lineP l) :: rowsL (i+1) ls
def rowsP (t:Bs):List Rw:=rowsL 0 (splitG 10 t)
def GoodLine (l:Bs):Prop:=Lib.idxFunc oddP true ⟨l.toArray⟩=-1∧(lineP l).length≤24
def RowsI (ls:List Bs) (W:World) (v i:Value) (wr:World):Prop :=
 ∃ (k:Nat) (es:List Re),k≤ls.length∧i=.int .i64 k∧OwnRw wr W.heap.size v es∧es.map rrow ++ rowsL k (ls.drop k)=rowsL 0 ls∧es.length≤k∧Below W.heap.size W wr
theorem Tryz_info132:(Tryz.prog.info? 132).map (fun i=>(i.zero,i.size,i.bytes))=some (some (.agg #[.int .i64 0,.slice none 0 0]),2,32):=by kernel_rfl
theorem rows_Parse (w:World) (s:Bs) (hG:GW w) (hs:s.length≤60000) (hl:(splitG 10 s).length≤1000) (hok:∀ l ∈ splitG 10 s,GoodLine l) :
  Calls Tryz.prog 69 #[.string ⟨s.toArray⟩] w fun e w'=>∃ A n c,e=.returned (.tuple #[.slice A n c,.int .i64 0,.int .i64 0])∧RowsIs w' A n c (rowsP s)∧Below w.heap.size w w':=by
 have HG:=qh hG;obtain ⟨i9,hi9,hz90,hz91,hz92⟩:=info_parts Tryz_info132;clear hG;have hsI:¬ (65536:Int)<(s.length:Int):=by omega
 go_enter Tryz.func69,Tryz.ntmps69;go_wp2_with fail;refine (str_split ⟨s.toArray⟩ 10 w HG.o (by rw [Lib.size_eq];show s.length≤1000000;omega)).mono ?_;rw [show (⟨s.toArray⟩:ByteArray).data.toList=s from rfl];have hll:∀ l ∈ splitG 10 s,l.length≤60000:=fun l h=>Nat.le_trans (splitG_mem_len 10 _ l h) hs;have HRP:Hid (rowsP s=rowsL 0 (splitG 10 s)):=rfl;generalize splitG 10 s=ls at *
 rintro e W ⟨⟨A,n,c,rfl,hS⟩,hb⟩;obtain rfl:n=ls.length:=hS.len;have HS:=qh hS;have HB:=qh hb;have HOK:=qh hok;have HLL:=qh hll;have hlI:(ls.length:Int)≤1000:=by omega
 have hmx:=maxLen_ge;have hcf:∀ args w,(callFunc 118 args).run Tryz.prog w=.ok (.enter 118 args) w:=fun _ _=>rfl
 have HPA:Hid (∀ W',PredAt Tryz.prog 118 #[] encR oddP W'):=fun W' W'' x _=>by
  have:=rows_odd W'' x;exact this.mono fun e w' h=>⟨h.1,0,by rw [h.2];rfl⟩
 clear hS hb hok hll;dsimp only;go_wp2_with fail;go_loopw [5,15] (fun v i wr=>RowsI ls W v i wr) (fun _ i _=>ls.length - (intOf i).toNat)
 case atStart=>exact ⟨0,[],Nat.zero_le _,rfl,OwnRw.nil _ _,rfl,ql,Below.refl _ _⟩
 case round =>
  obtain ⟨k,es,hk,rfl,ho,hacc,hal,hbr⟩:=hrel;have HO:=qh ho;have HACC:=qh hacc;have HBR:=qh hbr;have hsz:=hbr.size;clear ho hacc hbr;by_cases hlt:k<ls.length
  case neg =>
   have hkI:¬ (k:Int)<(ls.length:Int):=by omega
   have hfin:es.map rrow=rowsP s:=by have h:=HACC.o;rw [List.drop_eq_nil_of_le (by omega)] at h;rw [HRP.o,← h];simp [rowsL]
   obtain ⟨A',n',c',rfl,hI⟩:=HO.o.is;rw [hfin] at hI;have HI:=qh hI;clear hfin hI;go_wp2_with fail;refine bodyPost_ret (v:=.tuple #[.slice A' n' c',.int .i64 0,.int .i64 0]) (by simp [results,Tryz.results69,go_sem];try rfl) rfl ?_;exact ⟨_,_,_,rfl,HI.o,HB.o.trans (HBR.o.mono HB.o.size)⟩
  obtain ⟨b,o,rfl,hc⟩:=HS.o.at (by omega);obtain ⟨t,ht⟩:∃ t,ls[k]?=some t:=⟨ls[k],List.getElem?_eq_getElem hlt⟩;have k0:wr.cell? ⟨b,o+k,none⟩=some (.string ⟨t.toArray⟩):=(HBR.o.cell (World.block_lt_of_cell? W _ (hc k t ht))).trans (hc k t ht);have HD:=qh (drop_at ht);have HGL:=qh (HOK.o t (List.mem_of_getElem? ht));have htl:=HLL.o t (List.mem_of_getElem? ht);have hkI:(k:Int)<(ls.length:Int):=by omega
  have hk0:(0:Int)≤(k:Int):=by omega
  clear hc ht;obtain ⟨wo,rfl⟩:∃ wo:World,wo=wr:=⟨_,rfl⟩;go_wp2_with fail;refine (rows_words wo t (HG.o.below (HB.o.trans (HBR.o.mono HB.o.size)) ql) (by omega)).mono ?_;rintro e w1 ⟨v,rfl,hv,hb1⟩;obtain ⟨A1,n1,c1,rfl,hS1⟩:=hv.strs;obtain rfl:n1=(lineP t).length:=hS1.len;have HV1:=qh hv;have HS1:=qh hS1;have HB1:=qh hb1;have hs1:=hb1.size;have hwl:((lineP t).length:Int)≤24:=by have:=HGL.o.2;omega
  clear hv hS1 hb1 k0;dsimp only;go_wp2_with fail;refine (Tryz.strings_ContainsFunc 118 #[] hcf oddP ⟨t.toArray⟩ w1 (HPA.o w1)).mono ?_;rw [HGL.o.1,show decide ((0:Int)≤-1)=false from rfl];rintro e w2 ⟨rfl,hb2⟩;have HB2:=qt HB1 hb2;have HO2:=qh (HO.o.below (HB1.o.trans (hb2.mono HB1.o.size)));have HS2:=qh (HS1.o.below hb2 ql);have hs2:=hb2.size;clear hb2;dsimp only;by_cases he:lineP t=[]
  ·have hl0:(lineP t).length=0:=by rw [he];rfl
   have hnx:es.map rrow ++ rowsL (k+1) (ls.drop (k+1))=rowsL 0 ls:=by have h:=HACC.o;rw [HD.o,rowsL,if_pos he] at h;exact h
   have HN:=qh hnx;clear hnx he;go_wp2_with fail;go_roundw
   case rel=>exact ⟨k+1,es,by omega,by go_num,HO2.o,HN.o,by omega,HBR.o.trans (HB2.o.mono HBR.o.size)⟩
   case measure=>simp [intOf];omega
  ·have hl0:(lineP t).length≠0:=fun e=>he (List.eq_nil_of_length_eq_zero e);have hl0I:((lineP t).length:Int)≠0:=by omega
   have helI:(es.length:Int)≠2000:=by omega
   have hnx:(es ++ [((k:Int)+1,lineP t,Value.slice A1 (lineP t).length c1)]).map rrow ++ rowsL (k+1) (ls.drop (k+1))=rowsL 0 ls:=by
    have h:=HACC.o;rw [HD.o,rowsL,if_neg he] at h;rw [← h];simp [rrow]
   have HN:=qh hnx;obtain ⟨VA,vc,hvf,-⟩:=SlC.own HO2.o.own;subst hvf;clear hnx he;go_wp2_with (at_builtin;refine wpList_append_lies _ (by rfl) _ _ 82 (by rfl) W.heap.size 132 i9 (.agg #[.int .i64 0,.slice none 0 0]) 2 32 Tryz.underlying82 hi9 hz90 hz91 hz92 rfl (by decide) (.slice VA es.length vc) es.length (cells2 (es.map rcell)) (by rfl) (World.ownsRow.alloc HO2.o.own _) ⟨w2.heap.size,0,none⟩ 1 1 [.int .i64 ((k:Int)+1),.slice A1 (lineP t).length c1] (by rfl) rfl (World.news_of_block (heap_alloc_new w2 _)) (by simp [Value.oneCell']) (by omega) (by omega) (by omega) (by simp;omega) (w2.heap.size+1) (by simp) ?_;intro g' cap' w7 hown hgrow hat hlt';have HO7:=qh hown;have HG7:=qh hgrow;have HAT7:=qh hat;clear hown hgrow hat)
   go_roundw
   case rel =>
    have hal:Below w2.heap.size w2 (w2.alloc (.cells #[.int .i64 ((k:Int)+1),.slice A1 (lineP t).length c1] 132)):=(Below.refl _ _).alloc ql _;refine ⟨k+1,es ++ [((k:Int)+1,lineP t,Value.slice A1 (lineP t).length c1)],by omega,by go_num,?_,HN.o,by simp;omega,below_grown ((HBR.o.trans (HB2.o.mono HBR.o.size)).alloc (by omega) _) HG7.o (by simp;omega) (fun j hj=>(World.ownsRow.lt HO.o.own j hj).1)⟩;refine (HO2.o.below hal).push (e:=((k:Int)+1,lineP t,Value.slice A1 (lineP t).length c1)) ⟨⟨_,_,_,rfl,HS2.o.below hal ql⟩,fun j hj=>?_⟩ HG7.o HO7.o (HAT7.o.imp id fun h=>by rw [h];simp);have h1:=World.ownsRow.lt HV1.o j hj;exact ⟨by simp;omega,fun e=>by have:=(World.ownsRow.lt HO.o.own j e).2;omega⟩
   case measure=>simp [intOf];omega
theorem str_clone (w:World) (A:Option Addr) (n c:Nat) (ws:List Bs) (h:StrsAre w A n c ws) (h0:0<ws.length) (hl:ws.length≤1000000) :
  Calls Tryz.prog 119 #[.slice A n c] w fun e w'=>∃ v,e=.returned v∧OwnS w' w.heap.size v ws∧Below w.heap.size w w':=by
 obtain ⟨i9,hi9,hz90,hz91,hz92⟩:=info_parts Tryz_info9;obtain rfl:n=ws.length:=h.len;obtain ⟨b,o,rfl,hc⟩:=h.at h0;have hmx:=maxLen_ge;refine (Tryz.slices_Clone_f119 i9 (.string ByteArray.empty) 1 16 hi9 hz90 hz91 hz92 rfl (by omega) Tryz.sizeOf9 b o ws.length c (strs ws) w (by simp [strs]) (by omega) (by omega) (fun j u hu=>?_) (fun u hu=>?_)).mono ?_
 ·simp only [strs,List.getElem?_map,Option.map_eq_some_iff] at hu;obtain ⟨x,hx,rfl⟩:=hu;exact hc j x hx
 ·simp only [strs,List.mem_map] at hu;obtain ⟨x,-,rfl⟩:=hu
  rfl
 ·rintro e w' ⟨v,rfl,ho,-,hb⟩;exact ⟨v,rfl,ho,hb⟩
def kindP (K:Bs) (r:Rw):Bool:=decide (r.2.head?=some K)
def OfRowI (L:List Rw) (K:Bs) (W:World) (v i:Value) (wr:World):Prop :=
 ∃ (k:Nat) (es:List Re),k≤L.length∧i=.int .i64 k∧OwnRw wr W.heap.size v es∧es.map rrow=(L.take k).filter (kindP K)∧es.length≤k∧Below W.heap.size W wr
theorem rows_Of (w:World) (A:Option Addr) (n c:Nat) (L:List Rw) (K:Bs) (h:RowsIs w A n c L) (hl:L.length≤100000) (hw:∀ r ∈ L,r.2.length≤1000000) :
  Calls Tryz.prog 70 #[.slice A n c,.string ⟨K.toArray⟩] w fun e w'=>∃ A n c,e=.returned (.slice A n c)∧RowsIs w' A n c (L.filter (kindP K))∧Below w.heap.size w w':=by
 obtain rfl:n=L.length:=h.len;obtain ⟨i9,hi9,hz90,hz91,hz92⟩:=info_parts Tryz_info132;have HX:=qh h;have HW:=qh hw;have hlI:(L.length:Int)≤100000:=by omega
 have hmx:=maxLen_ge;clear h hw;go_enter Tryz.func70,Tryz.ntmps70;go_wp2_with fail;go_loopw [5,10] (fun v i wr=>OfRowI L K w v i wr) (fun _ i _=>L.length - (intOf i).toNat)
 case atStart=>exact ⟨0,[],Nat.zero_le _,rfl,OwnRw.nil _ _,rfl,ql,Below.refl _ _⟩
 case round =>
  obtain ⟨k,es,hk,rfl,ho,hacc,hal,hbr⟩:=hrel;have HO:=qh ho;have HACC:=qh hacc;have HBR:=qh hbr;have hsz:=hbr.size;clear ho hacc hbr;by_cases hlt:k<L.length
  case neg =>
   have hkI:¬ (k:Int)<(L.length:Int):=by omega
   have hfin:es.map rrow=L.filter (kindP K):=by have h:=HACC.o;rw [List.take_of_length_le (by omega)] at h;exact h
   obtain ⟨A',n',c',rfl,hI⟩:=HO.o.is;rw [hfin] at hI;have HI:=qh hI;clear hfin hI;go_wp2_with fail;go_ret
   exact ⟨_,_,_,rfl,HI.o,HBR.o⟩
  obtain ⟨b,o,rfl,hc⟩:=HX.o.at (by omega);obtain ⟨⟨ln,W⟩,hx⟩:∃ x,L[k]?=some x:=⟨L[k],List.getElem?_eq_getElem hlt⟩;obtain ⟨WA,wn,wc,hS,c0,c1⟩:=hc k (ln,W) hx;obtain rfl:wn=W.length:=hS.len;have q0:wr.cell? ⟨b,o+k * 2,none⟩=some (.int .i64 ln):=(HBR.o.cell (World.block_lt_of_cell? w _ c0)).trans c0;have q1:wr.cell? ⟨b,o+k * 2+1,none⟩=some (.slice WA W.length wc):=(HBR.o.cell (World.block_lt_of_cell? w _ c1)).trans c1;have hWl:W.length≤1000000:=HW.o _ (List.mem_of_getElem? hx);have hWI:(W.length:Int)≤1000000:=by omega
  have HS:=qh hS
  have HTK:Hid ((L.take (k+1)).filter (kindP K)=(L.take k).filter (kindP K) ++ if kindP K (ln,W)=true then [(ln,W)] else []):=by
   rw [List.take_add_one,hx,List.filter_append];exact qh (by simp only [Option.toList,List.filter_cons,List.filter_nil])
  have hkI:(k:Int)<(L.length:Int):=by omega
  have hk0:(0:Int)≤(k:Int):=by omega
  clear hc hS c0 c1 hx;obtain ⟨wo,rfl⟩:∃ wo:World,wo=wr:=⟨_,rfl⟩;go_upto_region 5 with fail;refine wp_letter (fun wx=>Blk wx wo.heap.size 132 [.int .i64 ln,.slice WA W.length wc]∧OwnRw wx w.heap.size u5 es∧Below w.heap.size w wx) ⟨Blk.made _ 132 _ _ _ rfl rfl,HO.o.below ((Below.refl _ _).alloc ql _),HBR.o.alloc HBR.o.size _⟩ ?_;rintro wx ⟨z1,z2,z3⟩;have Z1:=qh z1;have Z2:=qh z2;have Z3:=qh z3;have hszx:=z3.size;have hg7:=z1.lt;obtain ⟨k0,k1⟩:=z1.c2;have HNB:Hid (u5.ownBlock≠some wo.heap.size):=fun e=>by have:=(World.ownsRow.lt HO.o.own _ e).2;omega
  generalize wo.heap.size=g7 at *
  clear z1 z2 z3 q0 q1;rcases W with _|⟨x,W'⟩
  ·have hnk:(L.take (k+1)).filter (kindP K)=(L.take k).filter (kindP K):=by rw [HTK.o];simp [kindP]
   have HNK:=qh hnk;clear hnk;go_wp2_with fail;go_roundw
   case rel=>exact ⟨k+1,es,by omega,by go_num,Z2.o,by rw [HNK.o];exact HACC.o,by omega,Z3.o⟩
   case measure=>simp [intOf];omega
  obtain ⟨sb,so,rfl,hsc⟩:=(HS.o.below Z3.o ql).at (by simp);have k2:=hsc 0 x rfl;rw [Nat.add_zero] at k2;obtain ⟨wl,hwl⟩:∃ wl,(x :: W').length=wl:=⟨_,rfl⟩;have hwl0:(0:Int)<(wl:Int):=by rw [← hwl];simp
  have hwlN:wl≤1000000:=by rw [← hwl];exact hWl
  have HWLE:=qh hwl;rw [hwl] at Z1 k1;clear hsc hwl hWl hWI;by_cases he:x=K
  case neg =>
   have hte:(x == K)=false:=by simpa using he
   have hnk:(L.take (k+1)).filter (kindP K)=(L.take k).filter (kindP K):=by rw [HTK.o];simp [kindP,he]
   have HNK:=qh hnk;clear hnk he;go_wp2_with fail;go_roundw
   case rel=>exact ⟨k+1,es,by omega,by go_num,Z2.o,by rw [HNK.o];exact HACC.o,by omega,Z3.o⟩
   case measure=>simp [intOf];omega
  have hte:(x == K)=true:=by simpa using he
  have hnk:(L.take (k+1)).filter (kindP K)=(L.take k).filter (kindP K) ++ [(ln,x :: W')]:=by rw [HTK.o];simp [kindP,he]
  have HNK:=qh hnk;clear hnk he;obtain ⟨VA,vc,hvf,-⟩:=SlC.own Z2.o.own;subst hvf;go_upto_region 6 with fail;clear k2;refine wp_region_but (fun w'=>w'.cell? ⟨g7,0,none⟩=some (.int .i64 ln)∧w'.cell? ⟨g7,1,none⟩=some (.slice (some ⟨sb,so,none⟩) wl wc)∧Below w.heap.size w w') (by kernel_rfl) (by kernel_rfl) ⟨(Below.refl wx.heap.size wx).drew.cell hg7 |>.trans k0,(Below.refl wx.heap.size wx).drew.cell hg7 |>.trans k1,Z3.o.drew⟩ (fun hHeld=>?_);simp only [initL,lastL];refine takeA (i:=0) ?_
  try simp only [Act.put,MT,M0,M1]
  refine takeA (i:=1) ?_
  try simp only [Act.put,MT,M0,M1]
  refine takeA (i:=2) ?_
  try simp only [Act.put,MT,M0,M1]
  refine takeA (i:=3) ?_
  try simp only [Act.put,MT,M0,M1]
  refine takeA (i:=4) ?_
  try simp only [Act.put,MT,M0,M1]
  refine wpAnyH_ready (rs:=[5]) (by kernel_rfl) (by simp) ?_;refine consL rfl (fun K2 hK=>?_) AllReadyH.nil;go_simp;clear hHeld k0 k1;have hst:StrsAre wx.drew (some ⟨sb,so,none⟩) wl wc (x :: W'):=by have h:=HS.o.below Z3.o.drew ql;rw [HWLE.o] at h;exact h
  refine (str_clone wx.drew (some ⟨sb,so,none⟩) wl wc (x :: W') hst (by simp) (by rw [HWLE.o];exact hwlN)).mono ?_;clear hst;rintro e w5 ⟨v,rfl,hv,hb5⟩;have hb6:Below wx.heap.size wx w5:=(Below.refl _ _).drew.trans hb5;have HV:=qh hv;have HV2:=qh (Z2.o.below hb6);have HB5:=qh (Z3.o.trans (hb6.mono hszx));have Z5:=qh (Z1.o.below hb6 hg7);have hs5:wx.heap.size≤w5.heap.size:=hb6.size;have HVD:Hid (∀ k,v.ownBlock=some k→wx.heap.size≤k∧k<w5.heap.size):=fun k hk=>World.ownsRow.lt hv k hk;clear hb5 hb6 hv;have hvo:=SlC.own HV.o;rw [show (x :: W').length=wl from HWLE.o] at hvo;obtain ⟨CA,cc,hvf2,-⟩:=hvo;subst hvf2;dsimp only;refine hK.out _ _ ⟨Z5.o.cell 0,Z5.o.cell 1,HB5.o⟩ (fun hHeld=>?_);clear hK K2
  try simp only [Act.put,MT,M0,M1]
  refine takeA (i:=6) ?_
  try simp only [Act.put,MT,M0,M1]
  refine wpAnyH_ready (rs:=[7]) (by kernel_rfl) (by simp) ?_;refine consL rfl (fun K2 hK=>?_) AllReadyH.nil;go_simp;clear hHeld;refine hK.out _ _ ⟨(Z5.o.alloc _).cell 0,(Z5.o.alloc _).cell 1,HB5.o.alloc HB5.o.size _⟩ (fun hHeld=>?_);clear hK K2
  try simp only [Act.put,MT,M0,M1]
  refine wpAnyH_ready (rs:=[8]) (by kernel_rfl) (by simp) ?_;refine consL rfl (fun K2 hK=>?_) AllReadyH.nil;refine step_append_lies _ rfl (.tmp 26) (.tmp 33) 82 rfl w.heap.size 132 i9 (.agg #[.int .i64 0,.slice none 0 0]) 2 32 Tryz.underlying82 hi9 hz90 hz91 hz92 rfl (by decide) (.slice VA es.length vc) es.length (cells2 (es.map rcell)) rfl (World.ownsRow.alloc HV2.o.own _) ⟨w5.heap.size,0,none⟩ 1 1 [.int .i64 ln,.slice CA wl cc] rfl rfl (World.news_of_block (heap_alloc_new w5 _)) (by simp [Value.oneCell']) (by omega) (by omega) (by omega) (by simp;omega) (w5.heap.size+1) (by simp) ?_;intro g' cap' w7 hown hgrow hat hlt';clear hHeld;have HO7:=qh hown;have HG7:=qh hgrow;have HAT7:=qh hat;have hcl:∀ j,w7.cell? ⟨g7,j,none⟩=(w5.alloc (.cells #[.int .i64 ln,.slice CA wl cc] 132)).cell? ⟨g7,j,none⟩:=fun j=>hgrow.cell_far ⟨g7,j,none⟩ (by have:=Z5.o.lt;simp;omega) (fun e=>HNB.o e.symm);have HB7:=qh (below_grown (HB5.o.alloc HB5.o.size _) hgrow (Nat.le_trans HB5.o.size (by simp)) (fun j hj=>(World.ownsRow.lt HV2.o.own j hj).1));refine hK.out _ _ ⟨(hcl 0).trans ((Z5.o.alloc _).cell 0),(hcl 1).trans ((Z5.o.alloc _).cell 1),HB7.o⟩ (fun hHeld=>?_);clear hK K2 hcl hown hgrow hat
  try simp only [Act.put,MT,M0,M1]
  refine wpAnyH_done (by kernel_rfl) ?_ _;clear hHeld;unfold TailQ;go_wp2_with fail;go_roundw
  case rel =>
   have hal:Below w5.heap.size w5 (w5.alloc (.cells #[.int .i64 ln,.slice CA wl cc] 132)):=(Below.refl _ _).alloc ql _;refine ⟨k+1,es ++ [(ln,x :: W',Value.slice CA wl cc)],by omega,by go_num,?_,by rw [HNK.o,List.map_append,HACC.o];rfl,by simp;omega,HB7.o⟩;refine (HV2.o.below hal).push (e:=(ln,x :: W',Value.slice CA wl cc)) ⟨⟨_,_,_,rfl,?_⟩,fun j hj=>?_⟩ HG7.o HO7.o (HAT7.o.imp id fun h=>by rw [h];simp)
   ·have h:=(SlC.own HV.o).below hal ql;exact h
   ·have h1:=HVD.o j hj;exact ⟨by simp;omega,fun e=>by have:=(World.ownsRow.lt Z2.o.own j e).2;omega⟩
  case measure=>simp [intOf];omega
end Go.Proofs.YtdgleeglndcjhaaGreatDoor
