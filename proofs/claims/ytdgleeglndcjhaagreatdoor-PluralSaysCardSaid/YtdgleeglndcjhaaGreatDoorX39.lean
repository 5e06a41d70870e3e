import Derived.Test.YtdgleeglndcjhaaGreatDoorX37
import Derived.Test.YtdgleeglndcjhaaGreatDoorX38
set_option linter.unusedSimpArgs false
set_option linter.unusedVariables false
set_option maxHeartbeats 64000000
set_option maxRecDepth 100000
namespace Go.Proofs.YtdgleeglndcjhaaGreatDoor
open Go.RowKit
def TmpB (w:World) (v1 v2 v3:Value) (o:Option Nat) (t:TypeId) (u:Value):Prop:=∀ b,o=some b→Blk w b t [u]∧v1.ownBlock≠some b∧v2.ownBlock≠some b∧v3.ownBlock≠some b
theorem TmpB.start (w:World) (v1 v2 v3:Value) (t:TypeId) (u:Value):TmpB w v1 v2 v3 none t u:=fun b h=>by cases h
theorem TmpB.alloc {w:World} {v1 v2 v3:Value} {o:Option Nat} {t:TypeId} {u:Value} (h:TmpB w v1 v2 v3 o t u) (ob:Obj):TmpB (w.alloc ob) v1 v2 v3 o t u:=fun b hb=>⟨(h b hb).1.alloc _,(h b hb).2⟩
theorem new_ne {w:World} {g b n cap:Nat} {v:Value} (hv:v.ownBlock≠some b) (hb:b<w.heap.size) (hat:v.ownBlock=some g∨g=w.heap.size):Value.ownBlock (.slice (some ⟨g,0,none⟩) n cap)≠some b:=by
 intro e;obtain rfl:g=b:=by simpa [Value.ownBlock] using e
 rcases hat with h|h
 ·exact hv h
 ·omega
theorem TmpB.push1 {w w':World} {v1 v2 v3:Value} {o:Option Nat} {t:TypeId} {u:Value} {g n cap:Nat} (h:TmpB w v1 v2 v3 o t u) (hg:w.grownBy w' v1.ownBlock) (hat:v1.ownBlock=some g∨g=w.heap.size):TmpB w' (.slice (some ⟨g,0,none⟩) n cap) v2 v3 o t u:=fun b hb=>⟨(h b hb).1.kept hg (fun e=>(h b hb).2.1 e.symm),new_ne (h b hb).2.1 (h b hb).1.lt hat,(h b hb).2.2.1,(h b hb).2.2.2⟩
theorem TmpB.push2 {w w':World} {v1 v2 v3:Value} {o:Option Nat} {t:TypeId} {u:Value} {g n cap:Nat} (h:TmpB w v1 v2 v3 o t u) (hg:w.grownBy w' v2.ownBlock) (hat:v2.ownBlock=some g∨g=w.heap.size):TmpB w' v1 (.slice (some ⟨g,0,none⟩) n cap) v3 o t u:=fun b hb=>⟨(h b hb).1.kept hg (fun e=>(h b hb).2.2.1 e.symm),(h b hb).2.1,new_ne (h b hb).2.2.1 (h b hb).1.lt hat,(h b hb).2.2.2⟩
theorem TmpB.push3 {w w':World} {v1 v2 v3:Value} {o:Option Nat} {t:TypeId} {u:Value} {g n cap:Nat} (h:TmpB w v1 v2 v3 o t u) (hg:w.grownBy w' v3.ownBlock) (hat:v3.ownBlock=some g∨g=w.heap.size):TmpB w' v1 v2 (.slice (some ⟨g,0,none⟩) n cap) o t u:=fun b hb=>⟨(h b hb).1.kept hg (fun e=>(h b hb).2.2.2 e.symm),(h b hb).2.1,(h b hb).2.2.1,new_ne (h b hb).2.2.2 (h b hb).1.lt hat⟩
structure R3 (w0 W w:World) (gp:Nat) (l1 l2 l3 v1 v2 v3:Value) (c1 c2 c3 xs:List Value) (E:List Er) (t1 t2 t3:Option Nat) (u1 u2 u3:Value):Prop where
 r:RLd w0 W w gp l1 l2 l3 v1 v2 v3 c1 c2 c3 xs E
 b1:TmpB w v1 v2 v3 t1 9 u1
 b2:TmpB w v1 v2 v3 t2 9 u2
 b3:TmpB w v1 v2 v3 t3 58 u3
theorem lt_ne {w:World} {B:Nat} {e:TypeId} {sz n:Nat} {v:Value} {xs:List Value} (h:w.ownsRow B e sz v n xs):v.ownBlock≠some w.heap.size:=fun e=>by have:=(World.ownsRow.lt h _ e).2;omega
theorem R3.new1 {w0 W w:World} {gp:Nat} {l1 l2 l3 v1 v2 v3:Value} {c1 c2 c3 xs:List Value} {E:List Er} {t1 t2 t3:Option Nat} {u1 u2 u3:Value} (h:R3 w0 W w gp l1 l2 l3 v1 v2 v3 c1 c2 c3 xs E t1 t2 t3 u1 u2 u3):R3 w0 W (w.alloc (.cells #[u1] 9)) gp l1 l2 l3 v1 v2 v3 c1 c2 c3 xs E (some w.heap.size) t2 t3 u1 u2 u3:=⟨h.r.alloc _,fun b hb=>⟨by cases hb;exact Blk.made _ 9 _ _ _ rfl rfl,by cases hb;exact ⟨lt_ne h.r.o1,lt_ne h.r.o2,lt_ne h.r.o3⟩⟩,h.b2.alloc _,h.b3.alloc _⟩
theorem R3.new2 {w0 W w:World} {gp:Nat} {l1 l2 l3 v1 v2 v3:Value} {c1 c2 c3 xs:List Value} {E:List Er} {t1 t2 t3:Option Nat} {u1 u2 u3:Value} (h:R3 w0 W w gp l1 l2 l3 v1 v2 v3 c1 c2 c3 xs E t1 t2 t3 u1 u2 u3):R3 w0 W (w.alloc (.cells #[u2] 9)) gp l1 l2 l3 v1 v2 v3 c1 c2 c3 xs E t1 (some w.heap.size) t3 u1 u2 u3:=⟨h.r.alloc _,h.b1.alloc _,fun b hb=>⟨by cases hb;exact Blk.made _ 9 _ _ _ rfl rfl,by cases hb;exact ⟨lt_ne h.r.o1,lt_ne h.r.o2,lt_ne h.r.o3⟩⟩,h.b3.alloc _⟩
theorem R3.new3 {w0 W w:World} {gp:Nat} {l1 l2 l3 v1 v2 v3:Value} {c1 c2 c3 xs:List Value} {E:List Er} {t1 t2 t3:Option Nat} {u1 u2 u3:Value} (h:R3 w0 W w gp l1 l2 l3 v1 v2 v3 c1 c2 c3 xs E t1 t2 t3 u1 u2 u3):R3 w0 W (w.alloc (.cells #[u3] 58)) gp l1 l2 l3 v1 v2 v3 c1 c2 c3 xs E t1 t2 (some w.heap.size) u1 u2 u3:=⟨h.r.alloc _,h.b1.alloc _,h.b2.alloc _,fun b hb=>⟨by cases hb;exact Blk.made _ 58 _ _ _ rfl rfl,by cases hb;exact ⟨lt_ne h.r.o1,lt_ne h.r.o2,lt_ne h.r.o3⟩⟩⟩
theorem R3.push1 {w0 W w w':World} {gp:Nat} {l1 l2 l3 v1 v2 v3:Value} {c1 c2 c3 xs:List Value} {E:List Er} {t1 t2 t3:Option Nat} {u1 u2 u3:Value} (h:R3 w0 W w gp l1 l2 l3 v1 v2 v3 c1 c2 c3 xs E t1 t2 t3 u1 u2 u3) {g cap:Nat} {x:Value} (hg:w.grownBy w' v1.ownBlock) (ho:w'.ownsRow W.heap.size 9 1 (.slice (some ⟨g,0,none⟩) (c1.length+1) cap) (c1.length+1) (c1 ++ [x])) (hat:v1.ownBlock=some g∨g=w.heap.size):R3 w0 W w' gp l1 l2 l3 (.slice (some ⟨g,0,none⟩) (c1.length+1) cap) v2 v3 (c1 ++ [x]) c2 c3 xs E t1 t2 t3 u1 u2 u3:=⟨h.r.push1 hg ho hat,h.b1.push1 hg hat,h.b2.push1 hg hat,h.b3.push1 hg hat⟩
theorem R3.push2 {w0 W w w':World} {gp:Nat} {l1 l2 l3 v1 v2 v3:Value} {c1 c2 c3 xs:List Value} {E:List Er} {t1 t2 t3:Option Nat} {u1 u2 u3:Value} (h:R3 w0 W w gp l1 l2 l3 v1 v2 v3 c1 c2 c3 xs E t1 t2 t3 u1 u2 u3) {g cap:Nat} {x:Value} (hg:w.grownBy w' v2.ownBlock) (ho:w'.ownsRow W.heap.size 9 1 (.slice (some ⟨g,0,none⟩) (c2.length+1) cap) (c2.length+1) (c2 ++ [x])) (hat:v2.ownBlock=some g∨g=w.heap.size):R3 w0 W w' gp l1 l2 l3 v1 (.slice (some ⟨g,0,none⟩) (c2.length+1) cap) v3 c1 (c2 ++ [x]) c3 xs E t1 t2 t3 u1 u2 u3:=⟨h.r.push2 hg ho hat,h.b1.push2 hg hat,h.b2.push2 hg hat,h.b3.push2 hg hat⟩
theorem R3.push3 {w0 W w w':World} {gp:Nat} {l1 l2 l3 v1 v2 v3:Value} {c1 c2 c3 xs:List Value} {E:List Er} {t1 t2 t3:Option Nat} {u1 u2 u3:Value} (h:R3 w0 W w gp l1 l2 l3 v1 v2 v3 c1 c2 c3 xs E t1 t2 t3 u1 u2 u3) {g cap:Nat} {x:Value} (hg:w.grownBy w' v3.ownBlock) (ho:w'.ownsRow W.heap.size 58 1 (.slice (some ⟨g,0,none⟩) (c3.length+1) cap) (c3.length+1) (c3 ++ [x])) (hat:v3.ownBlock=some g∨g=w.heap.size):R3 w0 W w' gp l1 l2 l3 v1 v2 (.slice (some ⟨g,0,none⟩) (c3.length+1) cap) c1 c2 (c3 ++ [x]) xs E t1 t2 t3 u1 u2 u3:=⟨h.r.push3 hg ho hat,h.b1.push3 hg hat,h.b2.push3 hg hat,h.b3.push3 hg hat⟩
theorem RLd.strs1 {w0 W w:World} {gp lc:Nat} {LA:Option Addr} {l1 l2 l3 v2 v3:Value} {c2 c3 xs:List Value} {F E:List Er} (h:RLd w0 W w gp l1 l2 l3 (.slice LA F.length lc) v2 v3 (strs (F.map (·.1))) c2 c3 xs E):StrsAre w LA F.length lc (F.map (·.1)):=by
 have s:=SlC.own h.o1;rw [show (strs (F.map (·.1))).length=F.length by simp [strs]] at s;unfold StrsAre;rw [List.length_map];exact s
theorem RLd.strs2 {w0 W w:World} {gp lc:Nat} {CA:Option Addr} {l1 l2 l3 v1 v3:Value} {c1 c3 xs:List Value} {F E:List Er} (h:RLd w0 W w gp l1 l2 l3 v1 (.slice CA F.length lc) v3 c1 (strs (F.map (·.2.1))) c3 xs E):StrsAre w CA F.length lc (F.map (·.2.1)):=by
 have s:=SlC.own h.o2;rw [show (strs (F.map (·.2.1))).length=F.length by simp [strs]] at s;unfold StrsAre;rw [List.length_map];exact s
theorem strs_snoc (l:List Bs) (t:Bs):strs (l ++ [t])=strs l ++ [.string ⟨t.toArray⟩]:=by simp [strs]
def RefPost (w:World) (L:List Rw) (e:Ending) (w':World):Prop :=
 (((loadAll L).1≠0∧e=.returned (.tuple #[.pointer none,.int .i64 (loadAll L).2.1,.int .i64 ((loadAll L).1:Nat)])) ∨
  ((loadAll L).1=0∧∃ gp E,e=.returned (.tuple #[.pointer (some ⟨gp,0,none⟩),.int .i64 0,.int .i64 0])∧PlR w' gp E∧toM E=(loadAll L).2.2∧E.length≤L.length))∧Below w.heap.size w w'
theorem Tryz_info58:(Tryz.prog.info? 58).map (fun i=>(i.zero,i.size,i.bytes))=some (some (.slice none 0 0),1,24):=by kernel_rfl
theorem rowCode_bad {m:PMap} {ws:List Bs} (h:ws.length<3∨langP (ws.getD 0 [])=false∨catP (ws.getD 1 [])=false∨ws.getD 1 []=wOther):(rowCode m ws).1=2:=by
 unfold rowCode;split
 ·rfl
 split
 ·rfl
 split
 ·rfl
 split
 ·rfl
 rename_i a b c d;rcases h with h|h|h|h
 ·exact absurd h a
 ·exact absurd h b
 ·exact absurd h c
 ·exact absurd h d
theorem ref_LoadPlurals (w:World) (A:Option Addr) (n c:Nat) (L:List Rw) (h:RowsIs w A n c L) (hl:L.length≤1000) (hw:∀ r ∈ L,r.2.length≤1000∧∀ t ∈ r.2,t.length≤100000) :
  Calls Tryz.prog 39 #[.slice A n c] w (RefPost w L):=by
 obtain rfl:n=L.length:=h.len;obtain ⟨i9,hi9,hz90,hz91,hz92⟩:=info_parts Tryz_info9;obtain ⟨i8,hi8,hz80,hz81,hz82⟩:=info_parts Tryz_info58;have HR:=qh h;have HW:=qh hw;have hlI:(L.length:Int)≤1000:=by omega
 have hmx:=maxLen_ge;clear h hw;go_enter Tryz.func39,Tryz.ntmps39;go_upto_region 2 with fail;refine wp_letter (fun w1=>Blk w1 w.heap.size 137 [.slice none 0 0,.slice none 0 0,.slice none 0 0]∧Below w.heap.size w w1) ⟨Blk.made _ 137 _ _ _ rfl rfl,(Below.refl _ _).alloc ql _⟩ ?_;rintro w1 ⟨y1,y2⟩;have HST:=qh (RLd.start w w1 w.heap.size y1 y2 ql);obtain ⟨g,hg⟩:∃ g,w.heap.size=g:=⟨_,rfl⟩;rw [hg] at HST
 try rw [hg]
 clear y1 y2 hg;go_wp2_with fail;go_loopw [6] (fun i wr=>∃ (k:Nat) (E:List Er) (v1 v2 v3:Value) (xs:List Value),k≤L.length∧i=.int .i64 (k:Int)∧RLd w w1 wr g v1 v2 v3 v1 v2 v3 (strs (E.map (·.1))) (strs (E.map (·.2.1))) xs xs E∧E.length≤k∧loadP (toM E) ((L.drop k).filter (kindP wPlural))=loadAll L) (fun i _=>L.length - (intOf i).toNat)
 case atStart=>exact ⟨0,[],_,_,_,[],Nat.zero_le _,rfl,HST.o,ql,rfl⟩
 case round =>
  obtain ⟨k,E,v1,v2,v3,xs,hk,rfl,hI,hE,hload⟩:=hrel;obtain ⟨wo,rfl⟩:∃ wo:World,wo=wr:=⟨_,rfl⟩;have HI:=qh hI;have HLD:=qh hload;clear hI hload;by_cases hlt:k<L.length
  case neg =>
   have hkI:¬ (k:Int)<(L.length:Int):=by omega
   have hfin:loadAll L=(0,0,toM E):=by rw [← HLD.o,List.drop_eq_nil_of_le (by omega)];rfl
   have HF:=qh hfin;have HP:=qh HI.o.is;have HBF:=qh HI.o.bel;clear hfin;go_wp2_with fail;refine bodyPost_ret (v:=.tuple #[.pointer (some ⟨g,0,none⟩),.int .i64 0,.int .i64 0]) (by simp [results,Tryz.results39,go_sem];try rfl) rfl ?_;exact ⟨.inr ⟨by rw [HF.o],g,E,rfl,HP.o,by rw [HF.o],by omega⟩,HBF.o⟩
  obtain ⟨b,o,rfl,hc⟩:=HR.o.at (by omega);obtain ⟨⟨ln,ws⟩,hx⟩:∃ x,L[k]?=some x:=⟨L[k],List.getElem?_eq_getElem hlt⟩;obtain ⟨hwl,hwm⟩:=HW.o _ (List.mem_of_getElem? hx);obtain ⟨WA,wn,wc,hS,c0,c1⟩:=hc k _ hx;dsimp only at hwl hwm hS c0;obtain rfl:wn=ws.length:=hS.len;have HM:Hid (∀ w',Below w.heap.size w w'→w'.cell? ⟨b,o+k * 2,none⟩=some (.int .i64 ln)∧w'.cell? ⟨b,o+k * 2+1,none⟩=some (.slice WA ws.length wc)):=fun w' h=>⟨(h.cell (World.block_lt_of_cell? w _ c0)).trans c0,(h.cell (World.block_lt_of_cell? w _ c1)).trans c1⟩;have HS:=qh hS;have HD:=qh (drop_at hx);have HWM:=qh hwm;have hkI:(k:Int)<(L.length:Int):=by omega
  have hk0:(0:Int)≤(k:Int):=by omega
  have hcap:=hS.cap;have hwlI:(ws.length:Int)≤1000:=by omega
  obtain ⟨m0,m1⟩:=HM.o wo HI.o.bel;clear hc hx hwm hS c0 c1;rcases ws with _|⟨x,ws'⟩
  ·have hnx:loadP (toM E) ((L.drop (k+1)).filter (kindP wPlural))=loadAll L:=by rw [← HLD.o,HD.o];simp [kindP]
   have HN:=qh hnx;clear hnx m0;go_wp2_with fail;go_roundw
   case rel=>exact ⟨k+1,E,v1,v2,v3,xs,by omega,by go_num,HI.o,by omega,HN.o⟩
   case measure=>simp [intOf];omega
  obtain ⟨sb,so,rfl,hsc⟩:=HS.o.at (by simp);have q0:=hsc 0 x rfl;rw [Nat.add_zero] at q0;have HQ:Hid (∀ w',Below w.heap.size w w'→∀ (j:Nat) (t:Bs),(x :: ws')[j]?=some t→w'.cell? ⟨sb,so+j,none⟩=some (.string ⟨t.toArray⟩)):=fun w' h j t ht=>(h.cell (World.block_lt_of_cell? w _ (hsc j t ht))).trans (hsc j t ht);have n0:wo.cell? ⟨sb,so,none⟩=some (.string ⟨x.toArray⟩):=HQ.o wo HI.o.bel 0 x rfl;obtain ⟨n,hn⟩:∃ n,(x :: ws').length=n:=⟨_,rfl⟩;have hn1:ws'.length+1=n:=by simpa using hn
  have HN1:=qh hn1;rw [hn] at m1 hwl hwlI hcap;have hn00:((n:Int) == 0)=false:=by rw [beq_eq_false_iff_ne];omega
  have hn0:(0:Int)<(n:Int):=by omega
  have hncI:(n:Int)≤(wc:Int):=by omega
  have HNL:=qh hn;clear hsc q0 hn hn1;by_cases hxp:x=wPlural
  case neg =>
   have hte:(x == [112,108,117,114,97,108])=false:=by simpa [wPlural] using hxp
   have hte2:(x != [112,108,117,114,97,108])=true:=by simpa [wPlural] using hxp
   have hnx:loadP (toM E) ((L.drop (k+1)).filter (kindP wPlural))=loadAll L:=by rw [← HLD.o,HD.o];simp [kindP,hxp]
   have HN:=qh hnx;clear hnx hxp m0;go_wp2_with fail;go_roundw
   case rel=>exact ⟨k+1,E,v1,v2,v3,xs,by omega,by go_num,HI.o,by omega,HN.o⟩
   case measure=>simp [intOf];omega
  have hte:(x == [112,108,117,114,97,108])=true:=by rw [hxp];rfl
  have hte2:(x != [112,108,117,114,97,108])=false:=by rw [hxp];rfl
  have hstep:loadAll L=if (rowCode (toM E) ws').1=0 then loadP (rowPut (toM E) ws') ((L.drop (k+1)).filter (kindP wPlural)) else ((rowCode (toM E) ws').1,ln,toM E):=by
   rw [← HLD.o,HD.o,List.filter_cons_of_pos (by rw [hxp];simp [kindP])];rfl
  have HBAD:Hid (∀ cd,(rowCode (toM E) ws').1=cd→cd≠0→(loadAll L).1=cd∧(loadAll L).2.1=ln):=fun cd h1 h2=>by rw [hstep,h1,if_neg h2];exact ⟨rfl,rfl⟩
  have HSTEP:=qh hstep;have HBo:=qh HI.o.bel;clear hxp hstep;by_cases h4:n<4
  ·have i4:(n:Int)<4:=by omega
   have HF:=qh (HBAD.o 2 (rowCode_bad (.inl (by have:=HN1.o;omega))) (by omega));clear h4;go_wp2_with fail;go_quiet (fail);go_step;go_wp2_with fail;refine bodyPost_ret (v:=.tuple #[.pointer none,.int .i64 ln,.int .i64 2]) (by simp [results,Tryz.results39,go_sem];try rfl) rfl ?_;exact ⟨.inl ⟨by rw [HF.o.1];omega,by rw [HF.o.1,HF.o.2];rfl⟩,below_drewN HBo.o _⟩
  have i4:¬ (n:Int)<4:=by omega
  obtain ⟨l,ct,r0,rs,rfl⟩:∃ l ct r0 rs,ws'=l :: ct :: r0 :: rs:=by
   have:=HN1.o
   match ws',this with
   | l :: ct :: r0 :: rs,_=>exact ⟨l,ct,r0,rs,rfl⟩
   | [],h=>simp at h;omega
   | [a],h=>simp at h;omega
   | [a,b],h=>simp at h;omega
  have hll:=HWM.o l (by simp);have hcl:=HWM.o ct (by simp);have n1:=HQ.o wo HBo.o 1 l rfl;have n2:=HQ.o wo HBo.o 2 ct rfl;have i1:(1:Int)<(n:Int):=by omega
  have i2:(2:Int)<(n:Int):=by omega
  have HL0:Hid ((l :: ct :: r0 :: rs:List Bs).getD 0 []=l):=rfl;have HC0:Hid ((l :: ct :: r0 :: rs:List Bs).getD 1 []=ct):=rfl;rcases Bool.eq_false_or_eq_true (langP l) with hlp|hlp
  case inr =>
   go_wp2_with fail;refine (ref_Lang wo l (by omega)).mono ?_;rw [hlp];rintro e w2 ⟨rfl,h2⟩;subst w2;dsimp only;have HF:=qh (HBAD.o 2 (rowCode_bad (.inr (.inl hlp))) (by omega));clear hlp;go_wp2_with fail;go_quiet (fail);go_step;go_wp2_with fail;refine bodyPost_ret (v:=.tuple #[.pointer none,.int .i64 ln,.int .i64 2]) (by simp [results,Tryz.results39,go_sem];try rfl) rfl ?_;exact ⟨.inl ⟨by rw [HF.o.1];omega,by rw [HF.o.1,HF.o.2];rfl⟩,below_drewN HBo.o _⟩
  rcases Bool.eq_false_or_eq_true (catP ct) with hcp|hcp
  case inr =>
   go_wp2_with fail;refine (ref_Lang wo l (by omega)).mono ?_;rw [hlp];rintro e w2 ⟨rfl,h2⟩;subst w2;dsimp only;go_wp2_with fail;refine (ref_Category wo ct).mono ?_;rw [hcp];rintro e w2 ⟨rfl,h2⟩;subst w2;dsimp only;have HF:=qh (HBAD.o 2 (rowCode_bad (.inr (.inr (.inl hcp)))) (by omega));clear hcp;go_wp2_with fail;go_quiet (fail);go_step;go_wp2_with fail;refine bodyPost_ret (v:=.tuple #[.pointer none,.int .i64 ln,.int .i64 2]) (by simp [results,Tryz.results39,go_sem];try rfl) rfl ?_;exact ⟨.inl ⟨by rw [HF.o.1];omega,by rw [HF.o.1,HF.o.2];rfl⟩,below_drewN HBo.o _⟩
  by_cases hot:ct=wOther
  ·have hto:(ct == [111,116,104,101,114])=true:=by rw [hot];rfl
   have HF:=qh (HBAD.o 2 (rowCode_bad (.inr (.inr (.inr hot)))) (by omega));have HLP:=qh hlp;have HCP:=qh hcp;clear hot hlp hcp;go_wp2_with fail;refine (ref_Lang wo l (by omega)).mono ?_;rw [HLP.o];rintro e w2 ⟨rfl,h2⟩;subst w2;dsimp only;go_wp2_with fail;refine (ref_Category wo ct).mono ?_;rw [HCP.o];rintro e w2 ⟨rfl,h2⟩;subst w2;dsimp only;go_wp2_with fail;go_quiet (fail);go_step;go_wp2_with fail;refine bodyPost_ret (v:=.tuple #[.pointer none,.int .i64 ln,.int .i64 2]) (by simp [results,Tryz.results39,go_sem];try rfl) rfl ?_;exact ⟨.inl ⟨by rw [HF.o.1];omega,by rw [HF.o.1,HF.o.2];rfl⟩,below_drewN HBo.o _⟩
  have hto:(ct == [111,116,104,101,114])=false:=by simpa [wOther] using hot
  obtain ⟨j,hj⟩:∃ j,Lib.join (r0 :: rs) [32]=j:=⟨_,rfl⟩
  have hcode:rowCode (toM E) (l :: ct :: r0 :: rs)=if (parseR j).1≠0 then ((parseR j).1,[]) else if ((toM E) l).any (fun e=>decide (e.1=ct))=true then (10,[]) else (0,(parseR j).2):=by
   rw [← hj];unfold rowCode;rw [if_neg (by simp),HL0.o,HC0.o,if_neg (by rw [hlp];simp),if_neg (by rw [hcp];simp),if_neg hot]
   rfl
  have hjl:j.length≤200000000:=by
   rw [← hj];have h1:=join_le [32] 1000 100000 (r0 :: rs) (fun t ht=>HWM.o t (List.mem_cons_of_mem _ (List.mem_cons_of_mem _ (List.mem_cons_of_mem _ ht)))) (by have:=HN1.o;simp at this ⊢;omega);simp at h1 ⊢;omega
  have HJ:=qh hj;have HCODE:=qh hcode;have HLP:=qh hlp;have HCP:=qh hcp;clear hj hcode hlp hcp hot;go_wp2_with fail;refine (ref_Lang wo l (by omega)).mono ?_;rw [HLP.o];rintro e w2 ⟨rfl,h2⟩;subst w2;dsimp only;go_wp2_with fail;refine (ref_Category wo ct).mono ?_;rw [HCP.o];rintro e w2 ⟨rfl,h2⟩;subst w2;have i3:(3:Int)≤(n:Int):=by omega
  have i3c:(3:Int)≤(wc:Int):=by omega
  have hc3:¬ wc - 3=0:=by omega
  have hc33:¬ wc=3:=by omega
  dsimp only;go_wp2_with fail;have hT:=(HS.o.below HBo.o ql).tail 3 (by simp);rw [HNL.o] at hT;refine (ref_joined wo _ _ _ (r0 :: rs) hT (by have:=HN1.o;simp at this ⊢;omega) (by rw [HJ.o];omega)).mono ?_;rw [HJ.o];rintro e w2 ⟨rfl,h2⟩;subst w2;clear hT;dsimp only;go_wp2_with fail;refine (ref_ParseRuleB wo j (by omega)).mono ?_;rintro e w5 ⟨⟨RA,rn,rc,rfl,hrr⟩,hb5⟩;have HB5:=qt HBo hb5;rcases parseR_cases j with ⟨r,hr1,hr2⟩|⟨ec,hr1,hr2⟩
  case inr =>
   have hcd:(rowCode (toM E) (l :: ct :: r0 :: rs)).1=ec:=by rw [HCODE.o,hr1,if_pos (by rcases hr2 with rfl|rfl <;> simp)]
   have hec:ec≠0:=by rcases hr2 with rfl|rfl <;> simp
   have hecI:(((ec:Nat):Int) != 0)=true:=by simp only [bne,Bool.not_eq_true',beq_eq_false_iff_ne];omega
   obtain ⟨m0,m1⟩:=HM.o w5 HB5.o;rw [hr1];have HF:=qh (HBAD.o ec hcd hec);have HEC:=qh hec;clear hr1 hr2 hcd hrr hb5 n0 n1 n2 hec;dsimp only;go_wp2_with fail;go_quiet (fail);go_step;go_wp2_with fail;refine bodyPost_ret (v:=.tuple #[.pointer none,.int .i64 ln,.int .i64 (ec:Nat)]) (by simp [results,Tryz.results39,go_sem];try rfl) rfl ?_;exact ⟨.inl ⟨by rw [HF.o.1];exact HEC.o,by rw [HF.o.1,HF.o.2]⟩,below_drewN HB5.o _⟩
  rw [hr1] at hrr ⊢;have HI5:=qh (HI.o.rules (l:=l) (ct:=ct) hb5 hrr);rw [hr1] at HCODE;dsimp only at HCODE;rw [if_neg (by simp)] at HCODE;have HR5:Hid (∀ w',Below w5.heap.size w5 w'→RLd w w1 w' g v1 v2 v3 v1 v2 v3 (strs (E.map (·.1))) (strs (E.map (·.2.1))) xs (xs ++ [.slice RA rn rc]) (E ++ [(l,ct,r)])):=fun w' h=>HI5.o.below h;clear hr1 hr2 hrr hb5 n0 n1 n2 m0 m1;have hE1:(strs (E.map (·.1))).length=E.length:=by simp [strs]
  have hE2:(strs (E.map (·.2.1))).length=E.length:=by simp [strs]
  have hE3:xs.length=E.length:=HI.o.rule.len;have s1:=SlC.own HI5.o.o1;have s2:=SlC.own HI5.o.o2;rw [hE1] at s1;rw [hE2] at s2;obtain ⟨LA,lc,rfl,-⟩:=s1;obtain ⟨CA,cc,rfl,-⟩:=s2;have hEI:(E.length:Int)≤1000:=by omega
  have HB5o:=qh HI5.o.bel;clear HI;dsimp only;go_wp2_with fail;go_loopw [10] (fun i wr=>∃ q:Nat,q≤E.length∧i=.int .i64 (q:Int)∧(∀ e ∈ E.take q,¬ (e.1=l∧e.2.1=ct))∧Below w5.heap.size w5 wr) (fun i _=>E.length - (intOf i).toNat)
  case atStart=>exact ⟨0,Nat.zero_le _,rfl,by simp,Below.refl _ _⟩
  case round =>
   obtain ⟨q,hq,rfl,hno,hbq⟩:=hrel;obtain ⟨wi,rfl⟩:∃ wi:World,wi=wr:=⟨_,rfl⟩;have HNO:=qh hno;have HBQ:=qh hbq;have HZ0:=qh (HR5.o wi hbq);have HBI:=qt HB5o hbq;clear hno hbq;obtain ⟨k0,k1,k2⟩:=HZ0.o.blk.c3;have n1:=HQ.o wi HBI.o 1 l rfl;have n2:=HQ.o wi HBI.o 2 ct rfl;by_cases hlt2:q<E.length
   ·obtain ⟨e,he⟩:∃ e,E[q]?=some e:=⟨E[q],List.getElem?_eq_getElem hlt2⟩;obtain ⟨lb,lo,rfl,hcl⟩:=HZ0.o.strs1.at (by simp;omega);obtain ⟨cb,co,rfl,hcc⟩:=HZ0.o.strs2.at (by simp;omega);have p1:=hcl q e.1 (by rw [List.getElem?_map,he];rfl);have p2:=hcc q e.2.1 (by rw [List.getElem?_map,he];rfl);have hqI:(q:Int)<(E.length:Int):=by omega
    have hq0:(0:Int)≤(q:Int):=by omega
    have HE:=qh he;obtain ⟨m0,m1⟩:=HM.o wi HBI.o;clear hcl hcc he
    have hnx:¬ (e.1=l∧e.2.1=ct)→∀ x ∈ E.take (q+1),¬ (x.1=l∧x.2.1=ct):=fun h x hx=>by
     rw [List.take_add_one,HE.o] at hx;rcases List.mem_append.1 hx with h'|h'
     ·exact HNO.o x h'
     ·obtain rfl:x=e:=by simpa using h'
      exact h
    have HNX:=qh hnx;clear hnx;by_cases he1:e.1=l
    ·have t1:(e.1 == l)=true:=by simpa using he1
     by_cases he2:e.2.1=ct
     ·have t2:(e.2.1 == ct)=true:=by simpa using he2
      have hcd:(rowCode (toM E) (l :: ct :: r0 :: rs)).1=10:=by rw [HCODE.o,if_pos (toM_any_at HE.o he1 he2)]
      have HF:=qh (HBAD.o 10 hcd (by omega));clear he1 he2 hcd;go_wp2_with fail;go_quiet (fail);go_step;go_wp2_with fail;go_quiet (fail);go_step;go_wp2_with fail;refine bodyPost_ret (v:=.tuple #[.pointer none,.int .i64 ln,.int .i64 10]) (by simp [results,Tryz.results39,go_sem];try rfl) rfl ?_;exact ⟨.inl ⟨by rw [HF.o.1];omega,by rw [HF.o.1,HF.o.2];rfl⟩,below_drewN (below_drewN HBI.o _) _⟩
     ·have t2:(e.2.1 == ct)=false:=by simpa using he2
      have HT:=qh (HNX.o fun h=>he2 h.2);clear he1 he2;go_wp2_with fail;go_quiet (fail);go_step;go_wp2_with fail;go_roundw
      case rel=>exact ⟨q+1,by omega,by go_num,HT.o,below_drewN HBQ.o _⟩
      case measure=>simp [intOf];omega
    ·have t1:(e.1 == l)=false:=by simpa using he1
     have HT:=qh (HNX.o fun h=>he1 h.1);clear he1;go_wp2_with fail;go_quiet (fail);go_step;go_wp2_with fail;go_roundw
     case rel=>exact ⟨q+1,by omega,by go_num,HT.o,below_drewN HBQ.o _⟩
     case measure=>simp [intOf];omega
   have hqI:¬ (q:Int)<(E.length:Int):=by omega
   have hcd:rowCode (toM E) (l :: ct :: r0 :: rs)=(0,r):=by
    rw [HCODE.o,if_neg (toM_any_no (by have h:=HNO.o;rw [List.take_of_length_le (by omega)] at h;exact h))]
   have hnext:loadP (toM (E ++ [(l,ct,r)])) ((L.drop (k+1)).filter (kindP wPlural))=loadAll L:=by
    have hp:=toM_put (E:=E) (ws:=l :: ct :: r0 :: rs) (l:=l) (c:=ct) (r:=r) rfl rfl hcd;rw [hp,HSTEP.o,hcd,if_pos rfl]
   have HNEXT:=qh hnext;clear hcd hnext HCODE HSTEP HBAD;go_upto_region 17 with fail;obtain ⟨C1,hC1⟩:∃ C,strs (E.map (·.1))=C:=⟨_,rfl⟩;obtain ⟨C2,hC2⟩:∃ C,strs (E.map (·.2.1))=C:=⟨_,rfl⟩;obtain ⟨XS,hXS⟩:∃ X,xs ++ [.slice RA rn rc]=X:=⟨_,rfl⟩;obtain ⟨EE,hEE⟩:∃ X,E ++ [(l,ct,r)]=X:=⟨_,rfl⟩;have hd0:=HZ0.o.below (Below.refl _ _).drew;rw [hC1,hC2,hXS,hEE] at hd0;have hc1:C1.length≤1000:=by rw [← hC1,hE1];omega
   have hc2:C2.length≤1000:=by rw [← hC2,hE2];omega
   have hc3:xs.length≤1000:=by omega
   have HC1:=qh hC1;have HC2:=qh hC2;have HXS:=qh hXS;have HEE:=qh hEE;have hr0:R3 w w1 wi.drew g (.slice LA E.length lc) (.slice CA E.length cc) v3 (.slice LA E.length lc) (.slice CA E.length cc) v3 C1 C2 xs XS EE none none none (.string ⟨l.toArray⟩) (.string ⟨ct.toArray⟩) (.slice RA rn rc):=⟨hd0,TmpB.start _ _ _ _ _ _,TmpB.start _ _ _ _ _ _,TmpB.start _ _ _ _ _ _⟩;have HR0:=qh hr0;have HS17:Hid (∀ (w':World) (a1 a2 a3:Value) (d1 d2 d3:List Value) (t1 t2 t3:Option Nat),R3 w w1 w' g (.slice LA E.length lc) (.slice CA E.length cc) v3 a1 a2 a3 d1 d2 d3 XS EE t1 t2 t3 (.string ⟨l.toArray⟩) (.string ⟨ct.toArray⟩) (.slice RA rn rc)→w'.cell? ⟨g,0,none⟩=some (.slice LA E.length lc)∧w'.cell? ⟨g,1,none⟩=some (.slice CA E.length cc)∧w'.cell? ⟨g,2,none⟩=some v3∧w'.cell? ⟨sb,so+1,none⟩=some (.string ⟨l.toArray⟩)∧w'.cell? ⟨sb,so+2,none⟩=some (.string ⟨ct.toArray⟩)):=fun w' a1 a2 a3 d1 d2 d3 t1 t2 t3 h=>⟨h.r.blk.cell 0,h.r.blk.cell 1,h.r.blk.cell 2,HQ.o _ h.r.bel 1 l rfl,HQ.o _ h.r.bel 2 ct rfl⟩;have he1:strs (EE.map (·.1))=C1 ++ [.string ⟨l.toArray⟩]:=by rw [← hEE,List.map_append,← hC1];exact strs_snoc _ _
   have he2:strs (EE.map (·.2.1))=C2 ++ [.string ⟨ct.toArray⟩]:=by rw [← hEE,List.map_append,← hC2];exact strs_snoc _ _
   have HE1:=qh he1;have HE2:=qh he2;clear he1 he2;clear hd0 hr0 hC1 hC2 hXS hEE hE1 hE2 hE3 k0 k1 k2 n1 n2 HZ0 HR5;refine wp_region_any (by kernel_rfl) ?_;refine wpAny_of_held (S:=fun _=>True) _ _ _ _ ?_;refine takeL (i:=1) (v:=?va1) rfl (by kernel_rfl) (by kernel_rfl) (by kernel_rfl) (fun _ _ _ h=>h) (Or.inl ⟨by rfl,?ha1⟩) trivial ?rb1
   case ha1=>(intro wz hSz;(first|(go_simp;done)|(go_simp;with_reducible rfl)))
   try simp only [Act.put,MT,M0,M1]
   refine takeL (i:=2) (v:=?va2) rfl (by kernel_rfl) (by kernel_rfl) (by kernel_rfl) (fun _ _ _ h=>h) (Or.inl ⟨by rfl,?ha2⟩) trivial ?rb2
   case ha2=>(intro wz hSz;(first|(go_simp;done)|(go_simp;with_reducible rfl)))
   try simp only [Act.put,MT,M0,M1]
   refine wpAnyH_of_any _ _ _ _ ?_;refine wpAny_pre (init:=[_,_,_,_,_,_,_,_,_,_,_,_,_,_,_,_,_,_,_,_,_,_,_,_,_,_,_,_]) (o:=_) (t:=[_,_,_,_,_,_,_,_]) (fun w'=>w'.cell? ⟨g,0,none⟩=some (.slice LA E.length lc)∧w'.cell? ⟨g,1,none⟩=some (.slice CA E.length cc)∧w'.cell? ⟨g,2,none⟩=some v3∧w'.cell? ⟨sb,so+1,none⟩=some (.string ⟨l.toArray⟩)∧w'.cell? ⟨sb,so+2,none⟩=some (.string ⟨ct.toArray⟩)) [1,2] 26 [false,true,true,false,false,false,false,false,false,false,false,false,false,false,false,false,false,false,false,false,false,false,false,false,false,false,false,false] rfl rfl (by kernel_rfl) (by kernel_rfl) (by kernel_rfl) (by kernel_rfl) ?_;refine wpAnyH_letter (fun wz=>R3 w w1 wz g (.slice LA E.length lc) (.slice CA E.length cc) v3 (.slice LA E.length lc) (.slice CA E.length cc) v3 C1 C2 xs XS EE none none none (.string ⟨l.toArray⟩) (.string ⟨ct.toArray⟩) (.slice RA rn rc)) HR0.o ?_;clear HR0;rintro wz hz;have HZ:=qh hz;have hHeld:=HS17.o _ _ _ _ _ _ _ _ _ _ hz;clear hz;refine takeA (i:=0) ?_
   try simp only [Act.put,MT,M0,M1]
   refine takeA (i:=3) ?_
   try simp only [Act.put,MT,M0,M1]
   refine takeA (i:=4) ?_
   try simp only [Act.put,MT,M0,M1]
   refine takeA (i:=5) ?_
   try simp only [Act.put,MT,M0,M1]
   refine takeA (i:=6) ?_
   try simp only [Act.put,MT,M0,M1]
   refine takeA (i:=7) ?_
   try simp only [Act.put,MT,M0,M1]
   refine takeA (i:=8) ?_
   try simp only [Act.put,MT,M0,M1]
   refine takeA (i:=9) ?_
   try simp only [Act.put,MT,M0,M1]
   refine takeA (i:=12) ?_
   try simp only [Act.put,MT,M0,M1]
   refine takeA (i:=13) ?_
   try simp only [Act.put,MT,M0,M1]
   refine takeA (i:=14) ?_
   try simp only [Act.put,MT,M0,M1]
   refine takeA (i:=15) ?_
   try simp only [Act.put,MT,M0,M1]
   refine takeA (i:=16) ?_
   try simp only [Act.put,MT,M0,M1]
   refine takeA (i:=17) ?_
   try simp only [Act.put,MT,M0,M1]
   refine takeA (i:=18) ?_
   try simp only [Act.put,MT,M0,M1]
   refine takeA (i:=21) ?_
   try simp only [Act.put,MT,M0,M1]
   refine takeA (i:=22) ?_
   try simp only [Act.put,MT,M0,M1]
   refine takeA (i:=23) ?_
   try simp only [Act.put,MT,M0,M1]
   refine takeA (i:=24) ?_
   try simp only [Act.put,MT,M0,M1]
   refine takeA (i:=25) ?_
   try simp only [Act.put,MT,M0,M1]
   refine wpAnyH_norm (fun a0 a' w'=>∃ x1 g1 k1 x2 g2 k2 x3 g3 k3:Nat,a'=((((((a0.put (some 124) (.slice (some ⟨x1,0,none⟩) 1 1)).put (some 125) (.slice (some ⟨g1,0,none⟩) (C1.length+1) k1)).put (some 133) (.slice (some ⟨x2,0,none⟩) 1 1)).put (some 134) (.slice (some ⟨g2,0,none⟩) (C2.length+1) k2)).put (some 140) (.slice (some ⟨x3,0,none⟩) 1 1)).put (some 141) (.slice (some ⟨g3,0,none⟩) (xs.length+1) k3))∧R3 w w1 w' g (.slice LA E.length lc) (.slice CA E.length cc) v3 (.slice (some ⟨g1,0,none⟩) (C1.length+1) k1) (.slice (some ⟨g2,0,none⟩) (C2.length+1) k2) (.slice (some ⟨g3,0,none⟩) (xs.length+1) k3) (C1 ++ [.string ⟨l.toArray⟩]) (C2 ++ [.string ⟨ct.toArray⟩]) (xs ++ [.slice RA rn rc]) XS EE (some x1) (some x2) (some x3) (.string ⟨l.toArray⟩) (.string ⟨ct.toArray⟩) (.slice RA rn rc)) ?first ?rest
   case first =>
    iterate 6
     all_goals
      first
      | refine wpAnyH_ready (rs:=[10,19,26]) (by decide +kernel) (by simp) ?_
      | refine wpAnyH_ready (rs:=[11,19,26]) (by decide +kernel) (by simp) ?_
      | refine wpAnyH_ready (rs:=[10,19]) (by decide +kernel) (by simp) ?_
      | refine wpAnyH_ready (rs:=[10,26]) (by decide +kernel) (by simp) ?_
      | refine wpAnyH_ready (rs:=[11,19]) (by decide +kernel) (by simp) ?_
      | refine wpAnyH_ready (rs:=[11,26]) (by decide +kernel) (by simp) ?_
      | refine wpAnyH_ready (rs:=[19,26]) (by decide +kernel) (by simp) ?_
      | refine wpAnyH_ready (rs:=[20,26]) (by decide +kernel) (by simp) ?_
      | refine wpAnyH_ready (rs:=[10]) (by decide +kernel) (by simp) ?_
      | refine wpAnyH_ready (rs:=[11]) (by decide +kernel) (by simp) ?_
      | refine wpAnyH_ready (rs:=[19]) (by decide +kernel) (by simp) ?_
      | refine wpAnyH_ready (rs:=[20]) (by decide +kernel) (by simp) ?_
      | refine wpAnyH_ready (rs:=[26]) (by decide +kernel) (by simp) ?_
      | refine wpAnyH_ready (rs:=[27]) (by decide +kernel) (by simp) ?_
     all_goals (repeat' (first|exact AllReadyH.nil|refine consL rfl (fun K2 hK=>?_) ?_))
     all_goals
      first
      | (refine step_append_lies _ rfl (.tmp 120) (.tmp 124) 54 rfl w1.heap.size 9 i9 (.string ByteArray.empty) 1 16 Tryz.underlying54 hi9 hz90 hz91 hz92 rfl (by decide) _ _ _ rfl HZ.o.r.o1 ⟨_,0,none⟩ 1 1 [.string ⟨l.toArray⟩] rfl rfl (World.news_of_block (HZ.o.b1 _ rfl).1) (by simp [Value.oneCell']) (by omega) (by omega) (by omega) HZ.o.r.le wz.heap.size rfl ?_;intro g' cap' w8 hown hgrow hat hlt8;have hz:=HZ.o.push1 hgrow hown hat;refine hK.out _ _ (HS17.o _ _ _ _ _ _ _ _ _ _ hz) (fun hHeld2=>?_);clear hK hHeld hHeld2 hown hgrow hat hlt8;try simp only [Act.put,MT,M0,M1];refine wpAnyH_letter (fun wz=>R3 w w1 wz g (.slice LA E.length lc) (.slice CA E.length cc) v3 _ _ _ _ _ _ XS EE _ _ _ (.string ⟨l.toArray⟩) (.string ⟨ct.toArray⟩) (.slice RA rn rc)) hz ?_;clear hz HZ;rintro wz hz;have HZ:=qh hz;have hHeld:=HS17.o _ _ _ _ _ _ _ _ _ _ hz;clear hz)
      | (refine step_append_lies _ rfl (.tmp 129) (.tmp 133) 54 rfl w1.heap.size 9 i9 (.string ByteArray.empty) 1 16 Tryz.underlying54 hi9 hz90 hz91 hz92 rfl (by decide) _ _ _ rfl HZ.o.r.o2 ⟨_,0,none⟩ 1 1 [.string ⟨ct.toArray⟩] rfl rfl (World.news_of_block (HZ.o.b2 _ rfl).1) (by simp [Value.oneCell']) (by omega) (by omega) (by omega) HZ.o.r.le wz.heap.size rfl ?_;intro g' cap' w8 hown hgrow hat hlt8;have hz:=HZ.o.push2 hgrow hown hat;refine hK.out _ _ (HS17.o _ _ _ _ _ _ _ _ _ _ hz) (fun hHeld2=>?_);clear hK hHeld hHeld2 hown hgrow hat hlt8;try simp only [Act.put,MT,M0,M1];refine wpAnyH_letter (fun wz=>R3 w w1 wz g (.slice LA E.length lc) (.slice CA E.length cc) v3 _ _ _ _ _ _ XS EE _ _ _ (.string ⟨l.toArray⟩) (.string ⟨ct.toArray⟩) (.slice RA rn rc)) hz ?_;clear hz HZ;rintro wz hz;have HZ:=qh hz;have hHeld:=HS17.o _ _ _ _ _ _ _ _ _ _ hz;clear hz)
      | (refine step_append_lies _ rfl (.tmp 138) (.tmp 140) 135 rfl w1.heap.size 58 i8 (.slice none 0 0) 1 24 Tryz.underlying135 hi8 hz80 hz81 hz82 rfl (by decide) _ _ _ rfl HZ.o.r.o3 ⟨_,0,none⟩ 1 1 [.slice RA rn rc] rfl rfl (World.news_of_block (HZ.o.b3 _ rfl).1) (by simp [Value.oneCell']) (by omega) (by omega) (by omega) HZ.o.r.le wz.heap.size rfl ?_;intro g' cap' w8 hown hgrow hat hlt8;have hz:=HZ.o.push3 hgrow hown hat;refine hK.out _ _ (HS17.o _ _ _ _ _ _ _ _ _ _ hz) (fun hHeld2=>?_);clear hK hHeld hHeld2 hown hgrow hat hlt8;try simp only [Act.put,MT,M0,M1];refine wpAnyH_letter (fun wz=>R3 w w1 wz g (.slice LA E.length lc) (.slice CA E.length cc) v3 _ _ _ _ _ _ XS EE _ _ _ (.string ⟨l.toArray⟩) (.string ⟨ct.toArray⟩) (.slice RA rn rc)) hz ?_;clear hz HZ;rintro wz hz;have HZ:=qh hz;have hHeld:=HS17.o _ _ _ _ _ _ _ _ _ _ hz;clear hz)
      | (go_simp;first|(have hz:=HZ.o.new1;refine hK.out _ _ (HS17.o _ _ _ _ _ _ _ _ _ _ hz) (fun hHeld2=>?_);clear hK hHeld hHeld2;try simp only [Act.put,MT,M0,M1];refine wpAnyH_letter (fun wz=>R3 w w1 wz g (.slice LA E.length lc) (.slice CA E.length cc) v3 _ _ _ _ _ _ XS EE _ _ _ (.string ⟨l.toArray⟩) (.string ⟨ct.toArray⟩) (.slice RA rn rc)) hz ?_;clear hz HZ;generalize wz.heap.size=gx at *;rintro wz hz;have HZ:=qh hz;have hHeld:=HS17.o _ _ _ _ _ _ _ _ _ _ hz;clear hz)|(have hz:=HZ.o.new2;refine hK.out _ _ (HS17.o _ _ _ _ _ _ _ _ _ _ hz) (fun hHeld2=>?_);clear hK hHeld hHeld2;try simp only [Act.put,MT,M0,M1];refine wpAnyH_letter (fun wz=>R3 w w1 wz g (.slice LA E.length lc) (.slice CA E.length cc) v3 _ _ _ _ _ _ XS EE _ _ _ (.string ⟨l.toArray⟩) (.string ⟨ct.toArray⟩) (.slice RA rn rc)) hz ?_;clear hz HZ;generalize wz.heap.size=gx at *;rintro wz hz;have HZ:=qh hz;have hHeld:=HS17.o _ _ _ _ _ _ _ _ _ _ hz;clear hz)|(have hz:=HZ.o.new3;refine hK.out _ _ (HS17.o _ _ _ _ _ _ _ _ _ _ hz) (fun hHeld2=>?_);clear hK hHeld hHeld2;try simp only [Act.put,MT,M0,M1];refine wpAnyH_letter (fun wz=>R3 w w1 wz g (.slice LA E.length lc) (.slice CA E.length cc) v3 _ _ _ _ _ _ XS EE _ _ _ (.string ⟨l.toArray⟩) (.string ⟨ct.toArray⟩) (.slice RA rn rc)) hz ?_;clear hz HZ;generalize wz.heap.size=gx at *;rintro wz hz;have HZ:=qh hz;have hHeld:=HS17.o _ _ _ _ _ _ _ _ _ _ hz;clear hz))
    all_goals
     refine wpAnyH_done (by decide +kernel) ?_ _;exact ⟨rfl,_,_,_,_,_,_,_,_,_,by simp only [Act.put,MT,M0,M1],HZ.o⟩
   case rest =>
    rintro a' wf ⟨x1,g1,k1,x2,g2,k2,x3,g3,k3,rfl,hz⟩
    try simp only [Act.put,MT,M0,M1]
    have HZF:=qh hz;clear hz hHeld HZ;obtain ⟨c0,c1,c2,u0,u1,u2⟩:=HZF.o.r.blk.cf3;have hfin:=HZF.o.r.set;rw [HXS.o,← HE1.o,← HE2.o] at hfin;have HFIN:=qh hfin;clear hfin
    iterate 9 (with_reducible refine tailsQ_cons (a':=?_) (w':=?_) (fun K Q' hK=>?_) ?_;rotate_left 2;focus (go_simp;exact hK);try simp only [Act.put,MT,M0,M1])
    refine tailsQ_nil ?_;go_wp2_with fail;go_roundw
    case rel=>exact ⟨k+1,EE,_,_,_,XS,by omega,by go_num,HFIN.o,by rw [← HEE.o];simp;omega,by rw [← HEE.o];exact HNEXT.o⟩
    case measure=>simp [intOf];omega
end Go.Proofs.YtdgleeglndcjhaaGreatDoor
