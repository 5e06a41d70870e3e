import Derived.Test.YtdgleeglndcjhaaGreatDoorX01
import Derived.Test.YtdgleeglndcjhaaGreatDoorX02
import Derived.Test.YtdgleeglndcjhaaGreatDoorX03
import Derived.Lib.SmallJoins
import Derived.Deep.AppendLies
import Derived.Maps.AppendAt
set_option linter.unusedSimpArgs false
set_option linter.unusedVariables false
set_option maxHeartbeats 4000000
set_option maxRecDepth 100000
namespace Go.Proofs.YtdgleeglndcjhaaGreatDoor
open Go.RowKit
structure GW (w:World):Prop where
 maxLen:∃ m:Int,w.cell? ⟨0,0,none⟩=some (.int .i64 m)
 pow10 : Lib.TabIs Tryz.prog w "internal/strconv.uint64pow10" .u64 Lib.pow10Tab
theorem pow10_named : Tryz.prog.globalNamed "internal/strconv.uint64pow10" = some 5 := by kernel_rfl
theorem GW.below {w w':World} {B:Nat} (h:GW w) (hb:Below B w w') (hB:w.heap.size≤B):GW w':=by
 obtain ⟨⟨m,hm⟩,ht⟩:=h;exact ⟨⟨m,(hb.cell (Nat.lt_of_lt_of_le (World.block_lt_of_cell? w _ hm) hB)).trans hm⟩,Go.Joins.tab_stays pow10_named ht hb hB⟩
def StrsAre (w:World) (A:Option Addr) (n c:Nat) (ws:List Bs):Prop:=SlC w (.slice A n c) 1 ws.length (ws.map fun b=>Value.string ⟨b.toArray⟩)
theorem StrsAre.below {w w':World} {A:Option Addr} {n c B:Nat} {ws:List Bs} (h:StrsAre w A n c ws) (hb:Below B w w') (hB:w.heap.size≤B):StrsAre w' A n c ws:=SlC.below h hb hB
theorem StrsAre.len {w:World} {A:Option Addr} {n c:Nat} {ws:List Bs} (h:StrsAre w A n c ws):n=ws.length:=by
 obtain ⟨A',c',h1,-⟩:=h;exact (Value.slice.inj h1).2.1
theorem StrsAre.cap {w:World} {A:Option Addr} {n c:Nat} {ws:List Bs} (h:StrsAre w A n c ws):n≤c:=by
 obtain ⟨A',c',h1,h2,-⟩:=h;obtain ⟨-,rfl,rfl⟩:=Value.slice.inj h1;exact h2
theorem StrsAre.at {w:World} {A:Option Addr} {n c:Nat} {ws:List Bs} (h:StrsAre w A n c ws) (h0:0<ws.length):∃ b o,A=some ⟨b,o,none⟩∧∀ j x,ws[j]?=some x→w.cell? ⟨b,o+j,none⟩=some (.string ⟨x.toArray⟩):=by
 obtain ⟨A',c',h1,h2,h3,h4⟩:=h;obtain ⟨b,o,h5,h6⟩:=h4 (by simpa using h0);obtain ⟨rfl,-,-⟩:=Value.slice.inj h1;exact ⟨b,o,h5,fun j x hx=>h6 j _ (by simp [hx])⟩
def RetS (e:Ending) (w':World) (ws:List Bs):Prop:=∃ A n c,e=.returned (.slice A n c)∧StrsAre w' A n c ws
theorem below_drews {B:Nat} (w:World) (n:Nat):Below B w (w.drewN n):=below_drewN (Below.refl _ _) n
theorem mk_data (s:ByteArray):(⟨s.data.toList.toArray⟩:ByteArray)=s:=by
 obtain ⟨a⟩:=s;simp
theorem str_split (s:ByteArray) (c:UInt8) (w:World) (hg:GW w) (hs:s.size≤1000000) :
  Calls Tryz.prog 46 #[.string s,.string ⟨#[c]⟩] w fun e w'=>RetS e w' (splitG c s.data.toList)∧Below w.heap.size w w':=by
 obtain ⟨m,hm⟩:=hg.maxLen;refine (Tryz.strings_Split s ⟨#[c]⟩ m w (by omega) hm (Nat.le_refl 1)).mono ?_;rintro e w' ⟨rfl,rfl⟩;have hlen:=Lib.splitB_all ⟨#[c]⟩ (Nat.le_refl 1) 0 (Lib.countB s ⟨#[c]⟩) s rfl;have hl2:=congrArg List.length (splitB_eq c s);rw [List.length_map] at hl2;rw [hlen] at hl2;refine ⟨⟨_,_,_,rfl,_,_,by rw [hl2],?_,?_,fun _=>⟨w.heap.size,0,rfl,fun j x hx=>?_⟩⟩,(Below.refl _ _).alloc ql _⟩
 ·omega
 ·simp
 ·rw [← splitB_eq,List.map_map] at hx;have e:(List.map ((fun b:Bs=>Value.string ⟨b.toArray⟩) ∘ fun x=>x.data.toList) (Lib.splitB ⟨#[c]⟩ 0 (Lib.countB s ⟨#[c]⟩) s))=(Lib.splitB ⟨#[c]⟩ 0 (Lib.countB s ⟨#[c]⟩) s).map Value.string:=List.map_congr_left fun b _=>by simp [mk_data]
  rw [e] at hx;rw [Nat.zero_add];simp only [World.cell?,World.alloc,Array.getElem?_push_size];simpa using hx
theorem str_cut (s sep:ByteArray) (w:World) (hg:GW w) (hs:s.size≤1000000) :
  Calls Tryz.prog 104 #[.string s,.string sep] w fun e w'=>e=.returned (.tuple #[.string ⟨(Lib.cut s.data.toList sep.data.toList).1.toArray⟩,.string ⟨(Lib.cut s.data.toList sep.data.toList).2.1.toArray⟩,.bool (Lib.cut s.data.toList sep.data.toList).2.2])∧Below w.heap.size w w':=by
 obtain ⟨m,hm⟩:=hg.maxLen;refine (Tryz.strings_Cut s sep m w (by omega) hm).mono ?_;rintro e w' ⟨rfl,n,rfl⟩;exact ⟨rfl,below_drews w n⟩
theorem str_contains (s sub:ByteArray) (w:World) (hg:GW w) (hs:s.size≤1000000) :
  Calls Tryz.prog 81 #[.string s,.string sub] w fun e w'=>e=.returned (.bool (Lib.contains s.data.toList sub.data.toList))∧Below w.heap.size w w':=by
 obtain ⟨m,hm⟩:=hg.maxLen;refine (Tryz.strings_Contains s sub m w (by omega) hm).mono ?_;rintro e w' ⟨rfl,rfl⟩;exact ⟨rfl,Below.refl _ _⟩
def digs:Bs:=[48,49,50,51,52,53,54,55,56,57]
theorem digs_is (b:UInt8):digs.contains b=isDig b:=by
 have:∀ n:Fin 256,digs.contains (UInt8.ofNat n.val)=isDig (UInt8.ofNat n.val):=by decide +kernel
 have h:=this ⟨b.toNat,b.toNat_lt⟩;simpa using h
theorem dropWhile_nil {α:Type} (p:α→Bool):∀ l:List α,l.dropWhile p=[]↔∀ b ∈ l,p b=true
 | []=>by simp
 | a :: l=>by
  rw [List.dropWhile_cons];split
  ·rename_i h;rw [dropWhile_nil p l];simp [h]
  ·rename_i h;simp [h]
theorem dropWhile_head {α:Type} (p:α→Bool):∀ (l:List α) {x:α} {r:List α},l.dropWhile p=x :: r→p x=false
 | [],_,_,h=>by simp at h
 | a :: l,x,r,h=>by
  rw [List.dropWhile_cons] at h;split at h
  ·exact dropWhile_head p l h
  ·rename_i hp;cases h;simpa using hp
theorem trim_nil (l:Bs):Lib.trimS l digs=[]↔∀ b ∈ l,isDig b=true:=by
 unfold Lib.trimS Lib.trimLeftS Lib.trimRightS;constructor
 ·intro h;have h1:=(dropWhile_nil _ _).1 h;intro b hb;by_cases hd:isDig b=true
  ·exact hd
  ·exfalso
   have hne:List.dropWhile (fun x=>digs.contains x) l.reverse≠[]:=fun e=>by
    have:=(dropWhile_nil _ _).1 e b (by simpa using hb);rw [digs_is] at this;exact hd this
   obtain ⟨x,r,hx⟩:=List.exists_cons_of_ne_nil hne;have hh:=dropWhile_head _ _ hx;have:=h1 x (by rw [hx];simp);rw [this] at hh;cases hh
 ·intro h
  have:List.dropWhile (fun x=>digs.contains x) l.reverse=[]:=(dropWhile_nil _ _).2 fun b hb=>by
   rw [digs_is];exact h b (by simpa using hb)
  rw [this];rfl
theorem trim_table:(Tryz.prog.info? 250).map (fun i=>(i.zero,i.size))=some (some (.agg (Array.replicate 256 (.bool false))),256):=by kernel_rfl
theorem str_trim (s:ByteArray) (w:World) (hs:s.size≤1000000) :
  Calls Tryz.prog 128 #[.string s,.string ⟨#[48,49,50,51,52,53,54,55,56,57]⟩] w fun e w'=>e=.returned (.string ⟨(Lib.trimS s.data.toList digs).toArray⟩)∧Below w.heap.size w w' :=
 Any.strings_Trim_laid Tryz.lays160 trim_table s ⟨#[48,49,50,51,52,53,54,55,56,57]⟩ w (by omega) (by decide) (ascii_of_all (by decide))
theorem num?_isSome {l:Bs} (h1:l≠[]) (h2:l.length≤9) (h3:∀ b ∈ l,isDig b=true) (h4:¬ (1<l.length∧l.head?=some 48)):∃ n,num? l=some n∧Lib.atoi l=some (n:Int):=by
 have key:∀ (l:Bs) (acc:Nat),(∀ b ∈ l,isDig b=true)→∃ n,Lib.decFrom acc l=some n:=by
  intro l
  induction l with
  | nil=>exact fun acc _=>⟨acc,rfl⟩
  | cons b l ih =>
   intro acc h;have hb:=h b (by simp);rw [isDig_val] at hb;obtain ⟨d,hd⟩:=Option.isSome_iff_exists.1 hb;obtain ⟨n,hn⟩:=ih (acc * 10+d) (fun b hb=>h b (List.mem_cons_of_mem _ hb));exact ⟨n,by simp only [Lib.decFrom,hd];exact hn⟩
 obtain ⟨n,hn⟩:=key l 0 h3
 have hdec:Lib.decNat l=some n:=by
  unfold Lib.decNat;rw [if_neg (by simpa using h1)];exact hn
 refine ⟨n,?_,?_⟩
 ·unfold num?;rw [if_neg (by rintro (h|h|h);exact h1 h;omega;exact h4 h)];exact hdec
 ·match l,h1,h3,hdec with
  | b :: r,_,h3,hdec =>
   have hb:=h3 b (by simp)
   have h45:(b == 45)=false:=by
    rw [beq_eq_false_iff_ne];rintro rfl;cases hb
   have h43:(b == 43)=false:=by
    rw [beq_eq_false_iff_ne];rintro rfl;cases hb
   unfold Lib.atoi;simp [h45,h43,hdec]
theorem num?_none {l:Bs} (h:l=[]∨9<l.length∨(∃ b ∈ l,isDig b=false)∨(1<l.length∧l.head?=some 48)):num? l=none:=by
 unfold num?;rcases h with h|h|⟨b,hb,hd⟩|h
 ·rw [if_pos (.inl h)]
 ·rw [if_pos (.inr (.inl h))]
 ·split
  ·rfl
  ·cases e:Lib.decNat l with
   | none=>rfl
   | some n =>
    exfalso;obtain ⟨-,hn⟩:=Lib.decNat_some e;obtain ⟨k,hk⟩:=List.getElem?_of_mem hb;obtain ⟨d,hv⟩:=Lib.digit_of_decFrom _ _ _ hn k b hk;rw [isDig_val,hv] at hd;cases hd
 ·rw [if_pos (.inr (.inr h))]
theorem rule_number (w:World) (s:ByteArray) (hs:s.size≤1000000) :
  Calls Tryz.prog 82 #[.string s] w fun e w'=>e=.returned (.tuple #[.int .i64 (((num? s.data.toList).getD 0:Nat):Int),.bool (num? s.data.toList).isSome])∧Below w.heap.size w w':=by
 by_cases h0:s.data.toList=[]
 ·have e:s=⟨#[]⟩:=by rw [← mk_data s,h0]
  subst e;have hn:num? (⟨#[]⟩:ByteArray).data.toList=none:=num?_none (.inl rfl);rw [hn];clear hn h0;go_enter Tryz.func82,Tryz.ntmps82;go_wp2_with fail;go_ret2
  exact ⟨rfl,Below.refl _ _⟩
 ·have he:s.toList.isEmpty=false:=by
   rw [Lib.toList_data];cases h:s.data.toList with
   | nil=>exact absurd h h0
   | cons a b=>rfl
  have hlen:s.data.toList.length=s.size:=(Lib.size_eq s).symm;by_cases h9:9<s.size
  ·have hn:num? s.data.toList=none:=num?_none (.inr (.inl (by omega)));rw [hn];have h9':(9:Int)<(s.size:Int):=by omega
   clear hn hlen h0;go_enter Tryz.func82,Tryz.ntmps82;go_wp2_with fail;go_ret2
   exact ⟨rfl,Below.refl _ _⟩
  ·have h9':¬ (9:Int)<(s.size:Int):=by omega
   by_cases hd:∀ b ∈ s.data.toList,isDig b=true
   ·have ht:Lib.trimS s.data.toList digs=[]:=(trim_nil _).2 hd;have HT:=qh ht;by_cases hz:1<s.data.toList.length∧s.data.toList.head?=some 48
    ·have hn:num? s.data.toList=none:=num?_none (.inr (.inr (.inr hz)));rw [hn];have h1:(1:Int)<(s.size:Int):=by omega
     have h0':0<s.size:=by omega
     have hc:((s[0].toNat:Int) == 48)=true:=by
      have:=hz.2;rw [List.head?_eq_getElem?,Lib.data_getElem? s 0 h0'] at this;rw [Option.some.inj this];rfl
     clear hn hlen h0 hz ht hd;go_enter Tryz.func82,Tryz.ntmps82;go_wp2_with ((with_reducible refine (str_trim s _ hs).mono ?_);rintro e w1 ⟨rfl,hb⟩;rw [HT.o];have HB:=qh hb;clear hb)
     go_ret2
     exact ⟨rfl,HB.o⟩
    ·obtain ⟨n,hn,ha⟩:=num?_isSome h0 (by omega) hd hz;rw [hn];have HA:=qh ha;by_cases h1:1<s.size
     ·have h1':(1:Int)<(s.size:Int):=by omega
      have h0':0<s.size:=by omega
      have hc:((s[0].toNat:Int) == 48)=false:=by
       rw [beq_eq_false_iff_ne];intro e;refine hz ⟨by omega,?_⟩;rw [List.head?_eq_getElem?,Lib.data_getElem? s 0 h0']
       congr 1
       apply UInt8.toNat_inj.1
       exact Int.ofNat.inj e
      clear hn hlen h0 hz ht hd ha;go_enter Tryz.func82,Tryz.ntmps82
      go_wp2_with (first
       | ((with_reducible refine (str_trim s _ hs).mono ?_);rintro e w1 ⟨rfl,hb⟩;rw [HT.o];have HB:=qh hb;clear hb)
       | ((with_reducible refine (Tryz.strconv_Atoi s n (by omega) HA.o _).mono ?_);rintro e w2 ⟨rfl,t,rfl⟩))
      go_quiet (fail);go_wp2_with fail;go_ret2
      exact ⟨rfl,below_drewN (HB.o.trans ((Lib.bytesWorld_below _ _ _).mono HB.o.size)) _⟩
     ·have h1':¬ (1:Int)<(s.size:Int):=by omega
      clear hn hlen h0 hz ht hd ha;go_enter Tryz.func82,Tryz.ntmps82
      go_wp2_with (first
       | ((with_reducible refine (str_trim s _ hs).mono ?_);rintro e w1 ⟨rfl,hb⟩;rw [HT.o];have HB:=qh hb;clear hb)
       | ((with_reducible refine (Tryz.strconv_Atoi s n (by omega) HA.o _).mono ?_);rintro e w2 ⟨rfl,t,rfl⟩))
      go_quiet (fail);go_wp2_with fail;go_ret2
      exact ⟨rfl,below_drewN (HB.o.trans ((Lib.bytesWorld_below _ _ _).mono HB.o.size)) _⟩
   ·have hx:∃ b ∈ s.data.toList,isDig b=false:=by
     simp only [Classical.not_forall] at hd;obtain ⟨b,hb,h⟩:=hd;exact ⟨b,hb,by simpa using h⟩
    have hn:num? s.data.toList=none:=num?_none (.inr (.inr (.inl hx)));rw [hn];have ht:Lib.trimS s.data.toList digs≠[]:=fun e=>hd ((trim_nil _).1 e)
    obtain ⟨t,hteq,hte⟩:∃ t:ByteArray,(⟨(Lib.trimS s.data.toList digs).toArray⟩:ByteArray)=t∧t.toList.isEmpty=false:=by
     refine ⟨_,rfl,?_⟩;rw [Lib.toList_data];cases h:Lib.trimS s.data.toList digs with
     | nil=>exact absurd h ht
     | cons a b=>rfl
    have HT:=qh hteq;clear hn hlen h0 ht hd hx hteq;go_enter Tryz.func82,Tryz.ntmps82;go_wp2_with ((with_reducible refine (str_trim s _ hs).mono ?_);rintro e w1 ⟨rfl,hb⟩;rw [HT.o];have HB:=qh hb;clear hb)
    go_ret2
    exact ⟨rfl,HB.o⟩
theorem Tryz_info9:(Tryz.prog.info? 9).map (fun i=>(i.zero,i.size,i.bytes))=some (some (.string ByteArray.empty),1,16):=by kernel_rfl
theorem Tryz_info54:(Tryz.prog.info? 54).map (fun i=>(i.zero,i.size,i.bytes))=some (some (.slice none 0 0),1,24):=by kernel_rfl
def strs (ws:List Bs):List Value:=ws.map fun b=>Value.string ⟨b.toArray⟩
theorem strs_len (ws:List Bs):(strs ws).length=ws.length:=by simp [strs]
theorem strs_app (a b:List Bs):strs (a ++ b)=strs a ++ strs b:=by simp [strs]
def OwnS (w:World) (B:Nat) (x:Value) (ws:List Bs):Prop:=w.ownsRow B 9 1 x ws.length (strs ws)
def Apart (x y:Value):Prop:=x.ownBlock=none∨x.ownBlock≠y.ownBlock
structure CutI (w:World) (B:Nat) (v:Value) (xs:List Value) (rows:List (List Bs)):Prop where
 out:w.ownsRow B 54 1 v rows.length xs
 rows:F2 (OwnS w B) xs rows
 apart:∀ x ∈ xs,Apart x v
 pair:xs.Pairwise Apart
theorem F2.snoc {α β:Type} {R:α→β→Prop}:∀ {l:List α} {r:List β} {a:α} {b:β},F2 R l r→R a b→F2 R (l ++ [a]) (r ++ [b])
 | _,_,_,_,.nil,h=>.cons h .nil
 | _,_,_,_,.cons k ks,h=>.cons k (ks.snoc h)
theorem F2.unsnoc {α β:Type} {R:α→β→Prop}:∀ {l:List α} {r:List β} {b:β},F2 R l (r ++ [b])→∃ l' a,l=l' ++ [a]∧F2 R l' r∧R a b
 | _,[],_,.cons h .nil=>⟨[],_,rfl,.nil,h⟩
 | _,_ :: r,_,.cons h hs=>by
  obtain ⟨l',a,rfl,h1,h2⟩:=F2.unsnoc hs;exact ⟨_ :: l',a,rfl,.cons h h1,h2⟩
theorem F2.mono_mem {α β:Type} {R S:α→β→Prop}:∀ {l:List α} {r:List β},F2 R l r→(∀ a ∈ l,∀ b,R a b→S a b)→F2 S l r
 | _,_,.nil,_=>.nil
 | _,_,.cons h hs,k=>.cons (k _ (by simp) _ h) (hs.mono_mem fun a ha=>k a (List.mem_cons_of_mem _ ha))
theorem OwnS.lt {w:World} {B:Nat} {x:Value} {ws:List Bs} (h:OwnS w B x ws) {k:Nat} (hk:x.ownBlock=some k):k<w.heap.size:=(World.ownsRow.lt h k hk).2
theorem OwnS.kept {w w':World} {B:Nat} {x v:Value} {ws:List Bs} (h:OwnS w B x ws) (hg:w.grownBy w' v.ownBlock) (ha:Apart x v):OwnS w' B x ws:=World.ownsRow.kept h hg ha
theorem OwnS.alloc {w:World} {B:Nat} {x:Value} {ws:List Bs} (h:OwnS w B x ws) (o:Obj):OwnS (w.alloc o) B x ws:=World.ownsRow.alloc h o
theorem CutI.alloc {w:World} {B:Nat} {v:Value} {xs:List Value} {rows:List (List Bs)} (h:CutI w B v xs rows) (o:Obj):CutI (w.alloc o) B v xs rows :=
 ⟨h.out.alloc o,h.rows.mono fun _ _ k=>k.alloc o,h.apart,h.pair⟩
theorem CutI.form {w:World} {B:Nat} {v:Value} {xs:List Value} {rows:List (List Bs)} (h:CutI w B v xs rows) (h0:rows≠[]):∃ g cap,v=.slice (some ⟨g,0,none⟩) rows.length cap:=by
 rcases h.out.2 with ⟨-,hn⟩|⟨g,cap,cur,hv,-⟩
 ·exact absurd (List.eq_nil_of_length_eq_zero hn) h0
 ·exact ⟨g,cap,hv⟩
theorem CutI.first (w:World) (B:Nat) (hB:B≤w.heap.size):CutI (w.alloc (.cells #[.slice none 0 0] 54)) B (.slice (some ⟨w.heap.size,0,none⟩) 1 1) [.slice none 0 0] [[]] :=
 ⟨World.ownsRow_lit w #[.slice none 0 0] 1 hB (by decide) rfl,.cons (World.ownsRow_nil _ _ _ _) .nil,fun x hx=>by
  have:x=.slice none 0 0:=by simpa using hx
  subst this;exact .inl rfl,by simp⟩
theorem CutI.push {w w':World} {B:Nat} {v v':Value} {xs:List Value} {rows:List (List Bs)} (h:CutI w B v xs rows) (hg:w.grownBy w' v.ownBlock)
  (ho:w'.ownsRow B 54 1 v' (rows.length+1) (xs ++ [.slice none 0 0])) (hat:v.ownBlock=v'.ownBlock∨v'.ownBlock=some w.heap.size):CutI w' B v' (xs ++ [.slice none 0 0]) (rows ++ [[]]):=by
 refine ⟨by simpa using ho,?_,?_,?_⟩
 ·exact (h.rows.mono_mem fun x hx ws k=>k.kept hg (h.apart x hx)).snoc (World.ownsRow_nil _ _ _ _)
 ·intro x hx;rcases List.mem_append.1 hx with hx|hx
  ·rcases hat with e|e
   ·unfold Apart;rw [← e];exact h.apart x hx
   ·cases hb:x.ownBlock with
    | none=>exact .inl hb
    | some k =>
     right;rw [e,hb];have:=F2.left (p:=fun x=>∀ k,x.ownBlock=some k→k<w.heap.size) (fun a b hab k hk=>hab.lt hk) h.rows x hx k hb;intro e';cases e';omega
  ·have:x=.slice none 0 0:=by simpa using hx
   subst this;exact .inl rfl
 ·rw [List.pairwise_append];refine ⟨h.pair,by simp,fun x hx y hy=>?_⟩;have:y=.slice none 0 0:=by simpa using hy
  subst this;cases hb:x.ownBlock with
  | none=>exact .inl hb
  | some k=>exact .inr (by rw [hb];simp [Value.ownBlock])
theorem CutI.grow {w w':World} {B g cap n g' cap':Nat} {xs:List Value} {x:Value} {rows:List (List Bs)} {r:List Bs} {t:Bs} (hl:xs.length=n)
  (h:CutI w B (.slice (some ⟨g,0,none⟩) (n+1) cap) (xs ++ [x]) (rows ++ [r])) (hg:w.grownBy w' x.ownBlock)
  (ho:w'.ownsRow B 9 1 (.slice (some ⟨g',0,none⟩) (r.length+1) cap') (r.length+1) (strs r ++ [.string ⟨t.toArray⟩])) (hat:x.ownBlock=some g'∨g'=w.heap.size) :
  CutI (w'.setCell ⟨g,n,none⟩ (.slice (some ⟨g',0,none⟩) (r.length+1) cap')) B (.slice (some ⟨g,0,none⟩) (n+1) cap) (xs ++ [.slice (some ⟨g',0,none⟩) (r.length+1) cap']) (rows ++ [r ++ [t]])∧w'.cell? ⟨g,n,none⟩=some x∧w'.frozen? ⟨g,n,none⟩=false:=by
 obtain ⟨hxs,-,hr⟩:=F2.unsnoc h.rows |>.imp fun _ h=>h.imp fun _ h=>h;have hF:=h.rows;obtain ⟨l',a,e,hF1,hF2⟩:=F2.unsnoc hF;obtain ⟨rfl,e2⟩:=List.append_inj' e rfl;cases e2
 have hlen:rows.length=n:=by rw [← hF1.len,hl]
 have hout:=h.out;have hax:Apart x (.slice (some ⟨g,0,none⟩) (n+1) cap):=h.apart x (by simp)
 have hvx:Value.ownBlock (.slice (some ⟨g,0,none⟩) (n+1) cap)=none∨Value.ownBlock (.slice (some ⟨g,0,none⟩) (n+1) cap)≠x.ownBlock:=by
  right;rcases hax with h|h
  ·rw [h];simp [Value.ownBlock]
  ·exact Ne.symm h
 have hn:(rows ++ [r]).length=n+1:=by simp [hlen]
 rw [hn] at hout;have ho1:=hout.kept hg hvx;have hst:=ho1.stored n (.slice (some ⟨g',0,none⟩) (r.length+1) cap')
 have hgne:g'≠g:=by
  rintro rfl;rcases hat with h|h
  ·rcases hax with h'|h'
   ·rw [h'] at h;cases h
   ·exact h' h
  ·have:=(hout.lt g' rfl).2;omega
 have hset:(xs ++ [x]).set n (.slice (some ⟨g',0,none⟩) (r.length+1) cap')=xs ++ [.slice (some ⟨g',0,none⟩) (r.length+1) cap']:=by
  rw [List.set_append_right _ _ (by omega),hl];simp
 rw [hset] at hst;refine ⟨⟨?_,?_,?_,?_⟩,?_,ho1.frozenAt n⟩
 ·have e:(rows ++ [r ++ [t]]).length=n+1:=by simp [hlen]
  rw [e];exact hst.1
 ·refine F2.snoc ?_ ?_
  ·refine (hF1.mono_mem fun y hy ws k=>?_);have hyx:Apart y x:=(List.pairwise_append.1 h.pair).2.2 y hy x (by simp);have k1:=k.kept hg hyx;exact World.ownsRow.kept k1 hst.2 (h.apart y (by simp [hy]))
  ·show World.ownsRow _ B 9 1 _ (r ++ [t]).length (strs (r ++ [t]));rw [strs_app,List.length_append];exact ho.kept hst.2 (.inr (by simp only [Value.ownBlock,ne_eq,Option.some.injEq];exact hgne))
 ·intro y hy;rcases List.mem_append.1 hy with hy|hy
  ·exact h.apart y (by simp [hy])
  ·have:y=.slice (some ⟨g',0,none⟩) (r.length+1) cap':=by simpa using hy
   subst this;exact .inr (by simp only [Value.ownBlock,ne_eq,Option.some.injEq];exact hgne)
 ·rw [List.pairwise_append];refine ⟨(List.pairwise_append.1 h.pair).1,by simp,fun y hy z hz=>?_⟩;have:z=.slice (some ⟨g',0,none⟩) (r.length+1) cap':=by simpa using hz
  subst this;cases hb:y.ownBlock with
  | none=>exact .inl hb
  | some k =>
   right;rw [hb];rcases hat with e|e
   ·have hyx:Apart y x:=(List.pairwise_append.1 h.pair).2.2 y hy x (by simp);rcases hyx with h'|h'
    ·rw [h'] at hb;cases hb
    ·rw [hb,e] at h';exact h'
   ·have:=F2.left (p:=fun x=>∀ k,x.ownBlock=some k→k<w.heap.size) (fun a b hab k hk=>hab.lt hk) hF1 y hy k hb;simp only [Value.ownBlock,ne_eq,Option.some.injEq];omega
 ·rw [ho1.cellAt n (by omega),List.getElem?_append_right (by omega),hl];simp
theorem F2.at {α β:Type} {R:α→β→Prop}:∀ {l:List α} {r:List β},F2 R l r→∀ (j:Nat) (b:β),r[j]?=some b→∃ a,l[j]?=some a∧R a b
 | _,_,.nil,j,b,h=>by simp at h
 | _,_,.cons h hs,0,b,hb=>by simp at hb;subst hb;exact ⟨_,rfl,h⟩
 | _,_,.cons h hs,j+1,b,hb=>by simpa using hs.at j b (by simpa using hb)
def RowsAre (w:World) (B:Nat) (A:Option Addr) (n c:Nat) (rows:List (List Bs)):Prop :=
 ∃ xs:List Value,SlC w (.slice A n c) 1 rows.length xs∧(∀ k,Value.ownBlock (.slice A n c)=some k→B≤k)∧F2 (fun x ws=>∃ A n c,x=.slice A n c∧StrsAre w A n c ws∧∀ k,x.ownBlock=some k→B≤k) xs rows
theorem RowsAre.len {w:World} {C:Nat} {A:Option Addr} {n c:Nat} {rows:List (List Bs)} (h:RowsAre w C A n c rows):n=rows.length:=by
 obtain ⟨xs,⟨A',c',h1,-⟩,-⟩:=h;exact (Value.slice.inj h1).2.1
theorem RowsAre.at {w:World} {C:Nat} {A:Option Addr} {n c:Nat} {rows:List (List Bs)} (h:RowsAre w C A n c rows) (h0:0<rows.length):∃ b o,A=some ⟨b,o,none⟩∧C≤b∧∀ j r,rows[j]?=some r→∃ A n c,w.cell? ⟨b,o+j,none⟩=some (.slice A n c)∧StrsAre w A n c r∧∀ k,Value.ownBlock (.slice A n c)=some k→C≤k:=by
 obtain ⟨xs,⟨A',c',h1,h2,h3,h4⟩,h8,h5⟩:=h;obtain ⟨b,o,h6,h7⟩:=h4 (by omega);obtain ⟨rfl,-,-⟩:=Value.slice.inj h1;refine ⟨b,o,h6,h8 b (by rw [h6];rfl),fun j r hr=>?_⟩;obtain ⟨x,hx,A,n,c,rfl,hs,hk⟩:=h5.at j r hr;exact ⟨A,n,c,h7 j _ hx,hs,hk⟩
theorem CutI.are {w:World} {B:Nat} {v:Value} {xs:List Value} {rows:List (List Bs)} (h:CutI w B v xs rows):∃ A n c,v=.slice A n c∧RowsAre w B A n c rows:=by
 have h1:=SlC.own h.out;obtain ⟨A,c,rfl,-⟩:=h1;refine ⟨A,_,c,rfl,xs,SlC.own h.out,fun k hk=>(h.out.lt k hk).1,h.rows.mono fun x ws k=>?_⟩;have k1:=SlC.own k;obtain ⟨A,c,rfl,-⟩:=k1;exact ⟨A,_,c,rfl,SlC.own k,fun j hj=>(World.ownsRow.lt k j hj).1⟩
def RetSS (e:Ending) (w':World) (B:Nat) (rows:List (List Bs)):Prop:=∃ A n c,e=.returned (.slice A n c)∧RowsAre w' B A n c rows
theorem splitG_snoc_eq {α:Type} [DecidableEq α] (c:α) (l:List α):splitG c (l ++ [c])=splitG c l ++ [[]]:=splitG_app c l []
theorem splitG_snoc_ne {α:Type} [DecidableEq α] {c x:α} (h:x≠c):∀ l:List α,∃ i r,splitG c l=i ++ [r]∧splitG c (l ++ [x])=i ++ [r ++ [x]]
 | []=>⟨[],[],rfl,splitG_other h rfl⟩
 | b :: l=>by
  obtain ⟨i,r,e1,e2⟩:=splitG_snoc_ne h l;by_cases hb:b=c
  ·subst hb;exact ⟨[] :: i,r,by rw [splitG_eq,e1];rfl,by rw [List.cons_append,splitG_eq,e2];rfl⟩
  ·cases i with
   | nil=>exact ⟨[],b :: r,by rw [splitG_other hb e1];rfl,by rw [List.cons_append,splitG_other hb e2];rfl⟩
   | cons y i=>exact ⟨(b :: y) :: i,r,by rw [splitG_other hb e1];rfl,by rw [List.cons_append,splitG_other hb e2];rfl⟩
theorem below_grown {B:Nat} {W w w':World} {row:Option Nat} (h:Below B W w) (hg:w.grownBy w' row) (hB:B≤w.heap.size) (hr:∀ k,row=some k→B≤k):Below B W w' :=
 ⟨hg.os.trans h.os,hg.tape.trans h.tape,hg.output.trans h.output,Nat.le_trans h.size hg.size,fun k hk=>(hg.block k (Nat.lt_of_lt_of_le hk hB) (fun e=>by have:=hr k e.symm;omega)).trans (h.block k hk)⟩
theorem splitG_length {α:Type} [DecidableEq α] (c:α):∀ l:List α,(splitG c l).length≤l.length+1
 | []=>ql
 | b :: l=>by
  have ih:=splitG_length c l;by_cases h:b=c
  ·subst h;rw [splitG_eq];simp;exact ih
  ·obtain ⟨x,t,e⟩:=splitG_ex c l;rw [splitG_other h e];rw [e] at ih;simp at ih ⊢;omega
theorem splitG_mem_len {α:Type} [DecidableEq α] (c:α):∀ (l w:List α),w ∈ splitG c l→w.length≤l.length
 | [],w,h=>by
  have:w=[]:=by simpa [splitG] using h
  subst this;simp
 | b :: l,w,h=>by
  by_cases hb:b=c
  ·subst hb;rw [splitG_eq] at h;rcases List.mem_cons.1 h with rfl|h
   ·simp
   ·have:=splitG_mem_len b l w h;simp;omega
  ·obtain ⟨x,t,e⟩:=splitG_ex c l;rw [splitG_other hb e] at h;have:=splitG_mem_len c l;rw [e] at this;rcases List.mem_cons.1 h with rfl|h
   ·have:=this x (by simp);simp;omega
   ·have:=this w (by simp [h]);simp;omega
theorem maxLen_ge:140737488355328≤maxLen:=by decide
def CutW (ws:List Bs) (at':Bs) (W:World) (B:Nat) (v i:Value) (wr:World):Prop :=
 ∃ (k:Nat) (xs:List Value),k≤ws.length∧i=.int .i64 k∧CutI wr B v xs (splitG at' (ws.take k))∧Below B W wr
theorem rule_cut (w:World) (A:Option Addr) (n c:Nat) (ws:List Bs) (s:ByteArray) (h:StrsAre w A n c ws) (hl:ws.length≤1000000) :
  Calls Tryz.prog 45 #[.slice A n c,.string s] w fun e w'=>RetSS e w' w.heap.size (splitG s.data.toList ws)∧Below w.heap.size w w':=by
 obtain rfl:n=ws.length:=h.len;have HX:=qh h;have hlI:(ws.length:Int)≤1000000:=by omega
 obtain ⟨i0,hi,hz0,hz1,hz2⟩:=info_parts Tryz_info54;obtain ⟨i9,hi9,hz90,hz91,hz92⟩:=info_parts Tryz_info9;clear h;go_enter Tryz.func45,Tryz.ntmps45;go_wp2_with fail;go_loopw [5,11] (CutW ws s.data.toList w w.heap.size) (fun _ i _=>ws.length - (intOf i).toNat)
 case atStart =>
  exact ⟨0,_,Nat.zero_le _,rfl,CutI.first w w.heap.size ql,(Below.refl _ _).alloc ql _⟩
 case round =>
  obtain ⟨k,xs,hk,rfl,hI,hb⟩:=hrel;by_cases hlt:k<ws.length
  ·obtain ⟨b,o,rfl,hc⟩:=(HX.o.below hb ql).at (by omega);obtain ⟨t,ht⟩:∃ t,ws[k]?=some t:=⟨ws[k],List.getElem?_eq_getElem hlt⟩;have hck:=hc k t ht;have htk:ws.take (k+1)=ws.take k ++ [t]:=by rw [List.take_add_one,ht];rfl
   have HTK:=qh htk;have hkI:(k:Int)<(ws.length:Int):=by omega
   have HB:=qh hb;clear hc hb htk ht;obtain ⟨g,cap,hv⟩:=hI.form (splitG_ne _ _);have hm:=splitG_length s.data.toList (ws.take k);have hm2:(ws.take k).length≤k:=List.length_take_le _ _;by_cases he:t=s.data.toList
   ·have hte:(t == s.toList)=true:=by rw [Lib.toList_data];simpa using he
    have hnx:splitG s.data.toList (ws.take (k+1))=splitG s.data.toList (ws.take k) ++ [[]]:=by rw [HTK.o,he];exact splitG_snoc_eq _ _
    have HN:=qh hnx;clear he hnx;generalize splitG s.data.toList (ws.take k)=rows at *
    subst hv;have hgB:=(hI.out.lt g rfl).1;have HI:=qh (hI.alloc (.cells #[.slice none 0 0] 54));clear hI;have hmx:=maxLen_ge;go_wp2_with (at_builtin;refine wpList_append_lies _ (by rfl) _ _ 94 (by rfl) w.heap.size 54 i0 (.slice none 0 0) 1 24 Tryz.underlying94 hi hz0 hz1 hz2 rfl (by decide) _ _ xs (by rfl) HI.o.out ⟨wr.heap.size,0,none⟩ 1 1 [.slice none 0 0] (by rfl) rfl (cell_one_new _ _ _) (by simp [Value.oneCell']) (by omega) (by omega) (by omega) (Nat.le_trans HB.o.size (by simp)) (wr.heap.size+1) (by simp) ?_;intro g' cap' w1 hown hgrow hat hlt';have HO:=qh hown;have HG:=qh hgrow;have HAT:=qh hat;clear hown hgrow hat)
    go_roundw
    case rel =>
     refine ⟨k+1,xs ++ [.slice none 0 0],by omega,by go_num,?_,below_grown (HB.o.alloc HB.o.size _) HG.o (Nat.le_trans HB.o.size (by simp)) (by intro j hj;cases hj;exact hgB)⟩;rw [HN.o];refine HI.o.push HG.o HO.o ?_;rcases HAT.o with h|h
     ·exact .inl h
     ·right;rw [h];simp [Value.ownBlock]
    case measure=>simp [intOf];omega
   ·have hte:(t == s.toList)=false:=by rw [Lib.toList_data];simpa using he
    obtain ⟨ri,r,e1,e2⟩:=splitG_snoc_ne he (ws.take k);rw [← HTK.o] at e2;have HN:=qh e2;have hrl:r.length≤k:=Nat.le_trans (splitG_mem_len s.data.toList (ws.take k) r (by rw [e1];simp)) hm2;rw [e1] at hI hm hv;clear he e2 e1;obtain ⟨xi,x,rfl,hF1,hF2⟩:=F2.unsnoc hI.rows;have hxl:=hF1.len;obtain ⟨m,hml⟩:∃ m,xi.length=m:=⟨_,rfl⟩;have hrm:ri.length=m:=by omega
    rw [show (ri ++ [r]).length=m+1 by simp [hrm]] at hv;subst hv;have hgB:=(hI.out.lt g rfl).1;have hO:=hI.out;rw [show (ri ++ [r]).length=m+1 by simp [hrm]] at hO hm
    have hcell:wr.cell? ⟨g,m,none⟩=some x:=by
     rw [hO.cellAt m (by omega),List.getElem?_append_right (by omega),hml];simp
    have HI:=qh hI;have H2:=qh hF2;have HML:=qh hml;clear hI hF1 hF2 hxl hml hrm hO;have hm0:(0:Int)≤(m:Int):=by omega
    have hmx:=maxLen_ge;go_wp2_with (at_builtin;refine wpList_append_lies _ (by rfl) _ _ 54 (by rfl) w.heap.size 9 i9 (.string ByteArray.empty) 1 16 Tryz.underlying54 hi9 hz90 hz91 hz92 rfl (by decide) x r.length (strs r) (by rfl) (World.ownsRow.alloc H2.o _) ⟨wr.heap.size,0,none⟩ 1 1 [.string ⟨t.toArray⟩] (by rfl) rfl (cell_one_new _ _ _) (by simp [Value.oneCell']) (by omega) (by omega) (by omega) (Nat.le_trans HB.o.size (by simp)) (wr.heap.size+1) (by simp) ?_;intro g' cap' w1 hown hgrow hat hlt';have HO:=qh hown;have HG:=qh hgrow;have HAT:=qh hat;clear hown hgrow hat;obtain ⟨hfin,hc1,hf1⟩:=CutI.grow HML.o (HI.o.alloc (.cells #[.string ⟨t.toArray⟩] 9)) HG.o HO.o (HAT.o.imp id fun h=>by rw [h];simp);have HFIN:=qh hfin;clear hfin hcell)
    go_roundw
    case rel =>
     refine ⟨k+1,_,by omega,by go_num,HN.o ▸ HFIN.o,below_set (below_grown (HB.o.alloc HB.o.size _) HG.o (Nat.le_trans HB.o.size (by simp)) (fun j hj=>(World.ownsRow.lt H2.o j hj).1)) g m hgB _⟩
    case measure=>simp [intOf];omega
  ·have hk2:k=ws.length:=by omega
   subst hk2;have hkI:¬ (ws.length:Int)<(ws.length:Int):=by omega
   rw [List.take_length] at hI;obtain ⟨A',n',c',rfl,hR⟩:=hI.are;have HR:=qh hR;have HB:=qh hb;clear hI hR hb;go_wp2_with fail;go_ret
   exact ⟨⟨_,_,_,rfl,HR.o⟩,HB.o⟩
theorem rule_number_some (w:World) (l:Bs) (n:Nat) (hl:l.length≤1000000) (h:num? l=some n) :
  Calls Tryz.prog 82 #[.string ⟨l.toArray⟩] w fun e w'=>e=.returned (.tuple #[.int .i64 (n:Int),.bool true])∧Below w.heap.size w w':=by
 have:=rule_number w ⟨l.toArray⟩ (by rw [Lib.size_eq];simpa using hl);simp only [List.toList_toArray,h,Option.getD_some,Option.isSome_some] at this;exact this
theorem rule_number_none (w:World) (l:Bs) (hl:l.length≤1000000) (h:num? l=none) :
  Calls Tryz.prog 82 #[.string ⟨l.toArray⟩] w fun e w'=>e=.returned (.tuple #[.int .i64 0,.bool false])∧Below w.heap.size w w':=by
 have:=rule_number w ⟨l.toArray⟩ (by rw [Lib.size_eq];simpa using hl);simp only [List.toList_toArray,h,Option.getD_none,Option.isSome_none] at this;exact this
theorem str_cut_is (w:World) (l:Bs) (a b:Bs) (two:Bool) (hg:GW w) (hl:l.length≤1000000) (h:Lib.cut l [46,46]=(a,b,two)) :
  Calls Tryz.prog 104 #[.string ⟨l.toArray⟩,.string ⟨#[46,46]⟩] w fun e w'=>e=.returned (.tuple #[.string ⟨a.toArray⟩,.string ⟨b.toArray⟩,.bool two])∧Below w.heap.size w w':=by
 have:=str_cut ⟨l.toArray⟩ ⟨#[46,46]⟩ w hg (by rw [Lib.size_eq];simpa using hl);simp only [List.toList_toArray,h] at this;exact this
theorem cut_lens (l sep:Bs):(Lib.cut l sep).1.length≤l.length∧(Lib.cut l sep).2.1.length≤l.length:=by
 unfold Lib.cut;split
 ·simp;omega
 ·simp
theorem Apart.symm {x y:Value} (h:Apart x y):Apart y x:=by
 unfold Apart at *
 rcases h with h|h
 ·cases hy:y.ownBlock with
  | none=>exact .inl rfl
  | some k=>right;rw [h];simp
 ·right;exact Ne.symm h
def ints (l:List Int):List Value:=l.map (Value.int .i64)
def IntsAre (w:World) (A:Option Addr) (n c:Nat) (l:List Int):Prop:=SlC w (.slice A n c) 1 l.length (ints l)
theorem IntsAre.below {w w':World} {A:Option Addr} {n c B:Nat} {l:List Int} (h:IntsAre w A n c l) (hb:Below B w w') (hB:w.heap.size≤B):IntsAre w' A n c l:=SlC.below h hb hB
def IntsV (w:World) (v:Value) (l:List Int):Prop:=∃ A n c,v=.slice A n c∧IntsAre w A n c l
def OwnI (w:World) (B:Nat) (x:Value) (l:List Int):Prop:=w.ownsRow B 3 1 x l.length (ints l)
theorem OwnI.ints {w:World} {B:Nat} {x:Value} {l:List Int} (h:OwnI w B x l):IntsV w x l:=by
 have h1:=SlC.own h;obtain ⟨A,c,rfl,-⟩:=h1;exact ⟨A,_,c,rfl,SlC.own h⟩
theorem OwnI.form {w:World} {B:Nat} {x:Value} {l:List Int} (h:OwnI w B x l):∃ A n c,x=.slice A n c:=by
 obtain ⟨A,n,c,rfl,-⟩:=h.ints;exact ⟨A,n,c,rfl⟩
structure ListI (w W:World) (g:Nat) (pre:List Value) (vF vT:Value) (F T:List Int):Prop where
 blk:Blk w g 47 (pre ++ [vF,vT])
 fr:OwnI w W.heap.size vF F
 tl:OwnI w W.heap.size vT T
 ap:Apart vF vT
 gr:W.grownBy w (some g)
theorem Blk.kept {w w':World} {g:Nat} {t:TypeId} {l:List Value} {row:Option Nat} (h:Blk w g t l) (hg:w.grownBy w' row) (hne:some g≠row):Blk w' g t l:=by
 have:=h.lt;unfold Blk at *
 rw [hg.block g this hne];exact h
theorem grown_alloc {w:World} {row:Option Nat} (o:Obj):w.grownBy (w.alloc o) row:=World.grownBy_alloc w o row
theorem ListI.alloc {w W:World} {g:Nat} {pre:List Value} {vF vT:Value} {F T:List Int} (h:ListI w W g pre vF vT F T) (o:Obj):ListI (w.alloc o) W g pre vF vT F T :=
 ⟨h.blk.alloc o,h.fr.alloc o,h.tl.alloc o,h.ap,h.gr.trans (grown_alloc o)⟩
theorem ListI.below {w w' W:World} {g:Nat} {pre:List Value} {vF vT:Value} {F T:List Int} (h:ListI w W g pre vF vT F T) (hb:Below w.heap.size w w'):ListI w' W g pre vF vT F T:=by
 have hg:w.grownBy w' none:=⟨hb.os,hb.tape,hb.output,hb.size,fun k hk _=>hb.block k hk⟩;refine ⟨h.blk.kept hg (by simp),World.ownsRow.kept h.fr hg ?_,World.ownsRow.kept h.tl hg ?_,h.ap,h.gr.trans ⟨hb.os,hb.tape,hb.output,hb.size,fun k hk _=>hb.block k hk⟩⟩
 ·cases e:vF.ownBlock with
  | none=>exact .inl rfl
  | some k=>exact .inr (by simp)
 ·cases e:vT.ownBlock with
  | none=>exact .inl rfl
  | some k=>exact .inr (by simp)
theorem own_ne {w:World} {B g:Nat} {x:Value} {e:TypeId} {sz n:Nat} {xs:List Value} (h:w.ownsRow B e sz x n xs) (hg:g<B):some g≠x.ownBlock:=by
 intro e;have:=(h.lt g e.symm).1;omega
theorem ListI.cells {w W:World} {g:Nat} {l m nt:Value} {vF vT:Value} {F T:List Int} (h:ListI w W g [l,m,nt] vF vT F T) :
  w.cell? ⟨g,3,none⟩=some vF∧w.cell? ⟨g,4,none⟩=some vT∧w.frozen? ⟨g,3,none⟩=false∧w.frozen? ⟨g,4,none⟩=false :=
 ⟨h.blk.cell 3,h.blk.cell 4,h.blk.frozen 3,h.blk.frozen 4⟩
theorem grown_up {W w w1:World} {g:Nat} {row:Option Nat} (h:W.grownBy w (some g)) (hg:w.grownBy w1 row) (hr:∀ k,row=some k→W.heap.size≤k):W.grownBy w1 (some g) :=
 ⟨hg.os.trans h.os,hg.tape.trans h.tape,hg.output.trans h.output,Nat.le_trans h.size hg.size,fun k hk hne=>(hg.block k (Nat.lt_of_lt_of_le hk h.size) (fun e=>by have:=hr k e.symm;omega)).trans (h.block k hk hne)⟩
theorem grown_put {W w:World} {g:Nat} (h:W.grownBy w (some g)) (i:Nat) (u:Value):W.grownBy (w.setCell ⟨g,i,none⟩ u) (some g) :=
 h.trans ⟨rfl,rfl,rfl,by simp,fun k _ hk=>Below.heap_setCell _ _ _ _ (by intro e;exact hk (by simp [e]))⟩
theorem ListI.from {w w1 W:World} {g g' cap:Nat} {l m nt:Value} {vF vT:Value} {F T:List Int} {x:Int} (h:ListI w W g [l,m,nt] vF vT F T) (hgW:g<W.heap.size)
  (hg:w.grownBy w1 vF.ownBlock) (ho:w1.ownsRow W.heap.size 3 1 (.slice (some ⟨g',0,none⟩) (F.length+1) cap) (F.length+1) (ints F ++ [.int .i64 x])) (hat:vF.ownBlock=some g'∨g'=w.heap.size) :
  ListI (w1.setCell ⟨g,3,none⟩ (.slice (some ⟨g',0,none⟩) (F.length+1) cap)) W g [l,m,nt] (.slice (some ⟨g',0,none⟩) (F.length+1) cap) vT (F ++ [x]) T∧w1.cell? ⟨g,3,none⟩=some vF∧w1.cell? ⟨g,4,none⟩=some vT∧w1.frozen? ⟨g,3,none⟩=false∧w1.frozen? ⟨g,4,none⟩=false:=by
 have b1:=h.blk.kept hg (own_ne h.fr hgW);have hT:OwnI w1 W.heap.size vT T:=World.ownsRow.kept h.tl hg h.ap.symm;have hset:w1.grownBy (w1.setCell ⟨g,3,none⟩ (.slice (some ⟨g',0,none⟩) (F.length+1) cap)) (some g):=⟨rfl,rfl,rfl,by simp,fun k _ hk=>Below.heap_setCell _ _ _ _ (by intro e;exact hk (by simp [e]))⟩;refine ⟨⟨b1.put 3 _,?_,World.ownsRow.kept hT hset (.inr (Ne.symm (own_ne hT hgW))),?_,grown_put (grown_up h.gr hg (fun k hk=>(World.ownsRow.lt h.fr k hk).1)) 3 _⟩,b1.cell 3,b1.cell 4,b1.frozen 3,b1.frozen 4⟩
 ·show World.ownsRow _ _ 3 1 _ (F ++ [x]).length (ints (F ++ [x]));rw [List.length_append];have e:ints (F ++ [x])=ints F ++ [.int .i64 x]:=by simp [ints]
  rw [e];exact World.ownsRow.kept ho hset (.inr (Ne.symm (own_ne ho hgW)))
 ·right;rcases hat with e|e
  ·show some g'≠_;rw [← e];rcases h.ap with h'|h'
   ·rw [h'] at e;cases e
   ·exact h'
  ·intro e';have:=(World.ownsRow.lt h.tl g' e'.symm).2;omega
theorem ListI.till {w w1 W:World} {g g' cap:Nat} {l m nt:Value} {vF vT:Value} {F T:List Int} {x:Int} (h:ListI w W g [l,m,nt] vF vT F T) (hgW:g<W.heap.size)
  (hg:w.grownBy w1 vT.ownBlock) (ho:w1.ownsRow W.heap.size 3 1 (.slice (some ⟨g',0,none⟩) (T.length+1) cap) (T.length+1) (ints T ++ [.int .i64 x])) (hat:vT.ownBlock=some g'∨g'=w.heap.size) :
  ListI (w1.setCell ⟨g,4,none⟩ (.slice (some ⟨g',0,none⟩) (T.length+1) cap)) W g [l,m,nt] vF (.slice (some ⟨g',0,none⟩) (T.length+1) cap) F (T ++ [x])∧w1.cell? ⟨g,4,none⟩=some vT∧w1.frozen? ⟨g,4,none⟩=false:=by
 have b1:=h.blk.kept hg (own_ne h.tl hgW);have hF:OwnI w1 W.heap.size vF F:=World.ownsRow.kept h.fr hg h.ap;have hset:w1.grownBy (w1.setCell ⟨g,4,none⟩ (.slice (some ⟨g',0,none⟩) (T.length+1) cap)) (some g):=⟨rfl,rfl,rfl,by simp,fun k _ hk=>Below.heap_setCell _ _ _ _ (by intro e;exact hk (by simp [e]))⟩;refine ⟨⟨b1.put 4 _,World.ownsRow.kept hF hset (.inr (Ne.symm (own_ne hF hgW))),?_,Apart.symm ?_,grown_put (grown_up h.gr hg (fun k hk=>(World.ownsRow.lt h.tl k hk).1)) 4 _⟩,b1.cell 4,b1.frozen 4⟩
 ·show World.ownsRow _ _ 3 1 _ (T ++ [x]).length (ints (T ++ [x]));rw [List.length_append];have e:ints (T ++ [x])=ints T ++ [.int .i64 x]:=by simp [ints]
  rw [e];exact World.ownsRow.kept ho hset (.inr (Ne.symm (own_ne ho hgW)))
 ·right;rcases hat with e|e
  ·show some g'≠_;rw [← e];rcases h.ap.symm with h'|h'
   ·rw [h'] at e;cases e
   ·exact h'
  ·intro e';have:=(World.ownsRow.lt h.fr g' e'.symm).2;omega
def IntsB (w:World) (B:Nat) (v:Value) (l:List Int):Prop:=IntsV w v l∧∀ k,v.ownBlock=some k→B≤k∧k<w.heap.size
theorem OwnI.intsB {w:World} {B B':Nat} {x:Value} {l:List Int} (h:OwnI w B x l) (hB:B'≤B):IntsB w B' x l:=⟨h.ints,fun k hk=>⟨Nat.le_trans hB (World.ownsRow.lt h k hk).1,(World.ownsRow.lt h k hk).2⟩⟩
theorem IntsB.mono {w:World} {B B':Nat} {v:Value} {l:List Int} (h:IntsB w B v l) (hB:B'≤B):IntsB w B' v l:=⟨h.1,fun k hk=>⟨Nat.le_trans hB (h.2 k hk).1,(h.2 k hk).2⟩⟩
theorem IntsB.kept {w w':World} {B:Nat} {v:Value} {l:List Int} (h:IntsB w B v l) (hs:w.heap.size≤w'.heap.size) (hk:∀ k,v.ownBlock=some k→w'.heap[k]?=w.heap[k]?):IntsB w' B v l:=by
 obtain ⟨⟨A,n,c,rfl,A',c',h1,h2,h3,h4⟩,h5⟩:=h;refine ⟨⟨A,n,c,rfl,A',c',h1,h2,h3,fun hp=>?_⟩,fun k hk'=>⟨(h5 k hk').1,Nat.lt_of_lt_of_le (h5 k hk').2 hs⟩⟩;obtain ⟨b,o,h6,h7⟩:=h4 hp;refine ⟨b,o,h6,fun j x hx=>?_⟩;rw [← h7 j x hx];unfold World.cell?;rw [hk b (by rw [show A=A' from (Value.slice.inj h1).1,h6];rfl)]
theorem IntsB.set {w:World} {B g:Nat} {v:Value} {l:List Int} (h:IntsB w B v l) (hg:g<B) (i:Nat) (u:Value):IntsB (w.setCell ⟨g,i,none⟩ u) B v l :=
 h.kept (by simp) fun k hk=>Below.heap_setCell _ _ _ _ (by have:=(h.2 k hk).1;simp;omega)
theorem IntsB.below {w w':World} {B:Nat} {v:Value} {l:List Int} (h:IntsB w B v l) (hb:Below w.heap.size w w'):IntsB w' B v l :=
 h.kept hb.size fun k hk=>hb.block k (h.2 k hk).2
theorem IntsV.below {w w':World} {v:Value} {B:Nat} {l:List Int} (h:IntsV w v l) (hb:Below B w w') (hB:w.heap.size≤B):IntsV w' v l:=by
 obtain ⟨A,n,c,rfl,h⟩:=h;exact ⟨A,n,c,rfl,h.below hb hB⟩
def firsts (L:List (Nat × Nat)):List Int:=L.map fun e=>(e.1:Int)
def seconds (L:List (Nat × Nat)):List Int:=L.map fun e=>(e.2:Int)
def ListPost (w:World) (g:Nat) (pre:List Value) (s:Bs) (e:Ending) (w':World):Prop :=
 ∃ vF vT,Blk w' g 47 (pre ++ [vF,vT])∧w.grownBy w' (some g)∧(∃ A n c,vF=.slice A n c)∧(∃ A n c,vT=.slice A n c) ∧
  ((∃ L,list? s=some L∧e=.returned (.bool true)∧IntsB w' w.heap.size vF (firsts L)∧IntsB w' w.heap.size vT (seconds L))∨(list? s=none∧e=.returned (.bool false)))
def ListW (W:World) (g:Nat) (pre:List Value) (ws:List Bs) (i:Value) (wr:World):Prop :=
 ∃ (k:Nat) (L:List (Nat × Nat)) (vF vT:Value),k≤ws.length∧i=.int .i64 k∧all? item? (ws.take k)=some L∧L.length=k∧ListI wr W g pre vF vT (firsts L) (seconds L)
theorem all?_snoc {α β:Type} {f:α→Option β} {l:List α} {r:List β} {a:α} {b:β} (h:all? f l=some r) (hb:f a=some b):all? f (l ++ [a])=some (r ++ [b]) :=
 all?_append h (by simp [all?,hb])
theorem all?_bad {α β:Type} {f:α→Option β}:∀ {l:List α} {k:Nat} {a:α},l[k]?=some a→f a=none→all? f l=none
 | [],_,_,h,_=>by simp at h
 | b :: l,0,a,h,hf=>by
  have:b=a:=by simpa using h
  subst this;simp [all?,hf]
 | b :: l,k+1,a,h,hf=>by
  have:=all?_bad (l:=l) (k:=k) (by simpa using h) hf;unfold all?;split
  ·rfl
  ·rw [this]
end Go.Proofs.YtdgleeglndcjhaaGreatDoor
