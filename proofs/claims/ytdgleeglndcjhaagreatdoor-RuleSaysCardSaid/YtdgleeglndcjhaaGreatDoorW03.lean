import Derived.Test.YtdgleeglndcjhaaGreatDoorW02
import Derived.Laws.BitsAllLaws
set_option linter.unusedVariables false
set_option maxRecDepth 100000
namespace Go.Proofs.YtdgleeglndcjhaaGreatDoor
open Go.RowKit
def lenOf:Value→Nat|.slice _ k _=>k|_=>0
def U32 (l:List Nat):List Value:=l.map fun x:Nat=>Value.int .u32 (x:Int)
def RL (w:World) (v:Value) (l:List Nat):Prop:=SlC w v 1 l.length (U32 l)∧Wd l
def RN (w:World) (v:Value) (n:Nat):Prop:=RL w v (wordsOf n)
theorem RL.below {w w':World} {v:Value} {l:List Nat} {B:Nat} (h:RL w v l) (hb:Below B w w') (hB:w.heap.size≤B):RL w' v l:=⟨h.1.below hb hB,h.2⟩
theorem RN.below {w w':World} {v:Value} {n:Nat} {B:Nat} (h:RN w v n) (hb:Below B w w') (hB:w.heap.size≤B):RN w' v n:=RL.below h hb hB
theorem RN.raw {w:World} {v:Value} {n:Nat} (h:RN w v n):RL w v (wordsOf n):=h
theorem RL.take {w:World} {A:Option Addr} {c:Nat} {l:List Nat} (h:RL w (.slice A l.length c) l) (k:Nat) (hk:k≤l.length):RL w (.slice A k c) (l.take k):=by
 have:=SlC.take h.1 k hk
 refine ⟨?_,h.2.take k⟩
 unfold U32
 rw [List.map_take,List.length_take,Nat.min_eq_left hk]
 simpa [U32] using this
theorem RL.form {w:World} {v:Value} {l:List Nat} (h:RL w v l):∃ A c,v=.slice A l.length c∧l.length≤c∧(∀ k,k<l.length→∃ b o,A=some ⟨b,o,none⟩∧w.cell? ⟨b,o+k,none⟩=some (.int .u32 (l.getD k 0:Nat))∧b<w.heap.size∧l.getD k 0<4294967296):=by
 obtain ⟨⟨A,c,rfl,hc,h3,h4⟩,hd⟩:=h
 refine ⟨A,c,rfl,hc,fun k hk=>?_⟩
 obtain ⟨b,o,e,h⟩:=h4 (by simp [U32];omega)
 have hx:=h k _ (show (U32 l)[k]?=some (.int .u32 (l.getD k 0:Nat)) by simp [U32,hk])
 exact ⟨b,o,e,hx,World.block_lt_of_cell? w _ hx,hd.getD k⟩
theorem U32_length (l:List Nat):(U32 l).length=l.length:=by simp [U32]
theorem U32_get (l:List Nat) (i:Nat) (h:i<l.length):(U32 l)[i]?=some (.int .u32 (l.getD i 0:Nat)):=by simp [U32,h]
theorem U32_set (l:List Nat) (i:Nat) (x:Nat):(U32 l).set i (.int .u32 (x:Int))=U32 (l.set i x):=by simp [U32,List.map_set]
theorem U32_rep (n:Nat):List.replicate n (Value.int .u32 0)=U32 (List.replicate n 0):=by simp [U32]
theorem set_mid (done rest:List Nat) (x y:Nat) (k:Nat) (h:done.length=k):(done ++ x :: rest).set k y=done ++ [y] ++ rest:=by
 subst h;simp
theorem rep_pos (n:Nat) (h:0<n):List.replicate n (0:Nat)=0 :: List.replicate (n - 1) 0:=by
 obtain ⟨m,rfl⟩:∃ m,n=m+1:=⟨n - 1,by omega⟩
 simp [List.replicate_succ]
theorem getD_mid (done rest:List Nat) (x k:Nat) (h:done.length=k):(done ++ x :: rest).getD k 0=x:=by
 subst h;simp
theorem RL_blk {w:World} {g:Nat} {l:List Nat} (h:Blk w g 43 (U32 l)) (hd:Wd l) (n:Nat) (hn:n=l.length):RL w (.slice (some ⟨g,0,none⟩) n n) l:=by
 subst hn
 have:=h.slc l.length l.length (by simp [U32]) ql
 rw [List.take_of_length_le (by simp [U32])] at this
 exact ⟨this,hd⟩
theorem RL.drewN {w:World} {v:Value} {l:List Nat} (h:RL w v l) (n:Nat):RL (w.drewN n) v l:=h.below (below_drewN (Below.refl _ _) n) ql
theorem Blk.drewN {w:World} {g:Nat} {t:TypeId} {l:List Value} (h:Blk w g t l) (n:Nat):Blk (w.drewN n) g t l:=h.below (below_drewN (Below.refl _ _) n) h.lt
theorem Blk.far {w:World} {g:Nat} {t:TypeId} {l:List Value} (h:Blk w g t l) (p:Addr) (u:Value) (hp:g≠p.block):Blk (w.setCell p u) g t l:=by
 unfold Blk at *
 rw [Below.heap_setCell _ _ _ _ hp];exact h
theorem RL.far {w:World} {v:Value} {l:List Nat} (h:RL w v l) {g:Nat} {t:TypeId} {cs:List Value} (hB:Blk w g t cs) (hcs:∀ x ∈ cs,∀ n,x≠.int .u32 n) (j:Nat) (u:Value):RL (w.setCell ⟨g,j,none⟩ u) v l:=by
 refine ⟨?_,h.2⟩
 obtain ⟨A,c,h1,h2,h3,h4⟩:=h.1
 refine ⟨A,c,h1,h2,h3,fun hp=>?_⟩
 obtain ⟨b,o,h5,h6⟩:=h4 hp
 have hne:b≠g:=by
  rintro rfl
  have hl:0<l.length:=by simpa [U32] using hp
  have h0:=h6 0 _ (U32_get l 0 hl)
  rw [hB.cell] at h0
  exact hcs _ (List.mem_of_getElem? h0) _ rfl
 refine ⟨b,o,h5,fun k x hx=>?_⟩
 rw [← h6 k x hx]
 unfold World.cell?
 rw [Below.heap_setCell _ _ _ _ hne]
theorem RN.far {w:World} {v:Value} {n:Nat} (h:RN w v n) {g:Nat} {t:TypeId} {cs:List Value} (hB:Blk w g t cs) (hcs:∀ x ∈ cs,∀ n,x≠.int .u32 n) (j:Nat) (u:Value):RN (w.setCell ⟨g,j,none⟩ u) v n:=RL.far h hB hcs j u
theorem nat_trim (w:World) (v:Value) (l:List Nat) (h:RL w v l) (hl:l.length≤1000000000) :
  Calls Tryz.prog 63 #[v] w fun e w'=>∃ v',e=.returned (.agg #[v'])∧RN w' v' (val l)∧Below w.heap.size w w':=by
 have HR:=qh h
 have HV:=qh (trimL_val l h.2)
 obtain ⟨A,c,rfl,hc,hcell⟩:=h.form
 clear h
 go_enter Tryz.func63,Tryz.ntmps63
 go_wp2_with fail
 go_loop [0] (fun s=>∃ k,k≤l.length∧s=.slice A k c∧trimL (l.take k)=trimL l) (fun s=>lenOf s)
 case atStart=>exact ⟨l.length,ql,rfl,by simp⟩
 case round =>
  obtain ⟨k,hk,rfl,hq⟩:=hrel
  have Hq:=qh hq
  clear hq
  by_cases hk0:0<k
  ·obtain ⟨b,o,rfl,hx,hlt,hxb⟩:=hcell (k - 1) (by omega)
   obtain ⟨m,rfl⟩:∃ m,k=m+1:=⟨k - 1,by omega⟩
   simp only [Nat.add_sub_cancel] at hx hxb
   have hts:=take_succ_getD l m (by omega)
   generalize l.getD m 0=x at hx hts hxb
   have Hts:=qh hts
   clear hts hcell
   by_cases hz:x=0
   ·subst hz
    go_wp2
    go_round
    case rel=>exact ⟨m,by omega,by go_num,by rw [← Hq.out,Hts.out,trimL_snoc0]⟩
    case measure=>simp [lenOf]
   ·have hz':((x:Int) == 0)=false:=by simpa using hz
    have Hz:=qh hz
    clear hz
    go_wp2
    refine bodyPost_ret (v:=.agg #[.slice (some ⟨b,o,none⟩) (m+1) c]) (by simp [results,Tryz.results63,go_sem]) rfl ?_
    refine ⟨_,rfl,?_,(Below.refl _ _).alloc ql _⟩
    unfold RN
    rw [← HV.out,← Hq.out,Hts.out,trimL_snoc _ _ Hz.out,← Hts.out]
    exact (HR.out.take _ hk).below ((Below.refl w.heap.size _).alloc ql _) ql
  ·obtain rfl:k=0:=by omega
   go_wp2
   refine bodyPost_ret (v:=.agg #[.slice A 0 c]) (by simp [results,Tryz.results63,go_sem]) rfl ?_
   refine ⟨_,rfl,?_,(Below.refl _ _).alloc ql _⟩
   unfold RN
   rw [← HV.out,← Hq.out]
   exact (HR.out.take 0 hk).below ((Below.refl w.heap.size _).alloc ql _) ql
theorem nat_order (w:World) (b:Bool):Calls Tryz.prog 179 #[.bool b] w fun e w'=>e=.returned (.int .i64 (if b then -1 else 1))∧w=w':=by
 cases b <;> (go_enter Tryz.func179,Tryz.ntmps179;go_wp2;go_ret;exact ⟨rfl,rfl⟩)
theorem nat_at (w:World) (v:Value) (l:List Nat) (i:Nat) (h:RL w v l) (hl:l.length≤1000000000) (hi:i≤1000000000) :
  Calls Tryz.prog 198 #[v,.int .i64 i] w fun e w'=>e=.returned (.int .u64 (l.getD i 0:Nat))∧w=w':=by
 obtain ⟨A,c,rfl,hc,hcell⟩:=h.form
 clear h
 by_cases hlt:i<l.length
 ·obtain ⟨b,o,rfl,hx,hb,hxb⟩:=hcell i hlt
  clear hcell
  generalize l.getD i 0=x at hx hxb ⊢
  go_enter Tryz.func198,Tryz.ntmps198
  go_wp2
  go_ret
  exact ⟨rfl,rfl⟩
 ·have h0:l.getD i 0=0:=by rw [List.getD_eq_getElem?_getD,List.getElem?_eq_none (by omega)];rfl
  rw [h0]
  clear hcell h0
  go_enter Tryz.func198,Tryz.ntmps198
  go_wp2
  go_ret
  exact ⟨rfl,rfl⟩
theorem cast_bne (x:Nat):((x:Int) != 0)=(x != 0):=by
 by_cases h:x=0
 ·subst h;rfl
 ·have h2:(x:Int)≠0:=by omega
  rw [bne_iff_ne.2 h,bne_iff_ne.2 h2]
def goodL (l:List Nat):Bool:=l.length == 0 || l.getD (l.length - 1) 0 != 0
theorem goodL_words {l:List Nat} (h:Wd l) (hg:goodL l=true):wordsOf (val l)=l:=by
 refine wordsOf_of_last h ?_
 simp only [goodL,Bool.or_eq_true,beq_iff_eq,bne_iff_ne] at hg
 exact hg.imp List.eq_nil_of_length_eq_zero id
theorem goodL_wordsOf (n:Nat):goodL (wordsOf n)=true:=by
 by_cases h:n=0
 ·subst h;rw [wordsOf_zero];rfl
 ·simp only [goodL,Bool.or_eq_true,bne_iff_ne];exact .inr (wordsOf_last h)
theorem nat_Good (w:World) (v:Value) (l:List Nat) (h:RL w v l) (hl:l.length≤1000000000) :
  Calls Tryz.prog 75 #[.agg #[v]] w fun e w'=>e=.returned (.bool (goodL l))∧Below w.heap.size w w':=by
 obtain ⟨A,c,rfl,hc,hcell⟩:=h.form
 clear h
 by_cases h0:l.length=0
 ·have hg:goodL l=true:=by simp [goodL,h0]
  rw [h0,hg]
  clear hcell hg h0
  go_enter Tryz.func75,Tryz.ntmps75
  go_wp2
  go_ret
  exact ⟨rfl,(Below.refl _ _).alloc ql _⟩
 ·obtain ⟨b,o,rfl,hx,hb,hxb⟩:=hcell (l.length - 1) (by omega)
  have hg:goodL l=((l.getD (l.length - 1) 0:Int) != 0):=by
   simp only [goodL,show (l.length == 0)=false by simpa using h0,Bool.false_or]
   exact (cast_bne _).symm
  rw [hg]
  generalize l.getD (l.length - 1) 0=x at hx hxb ⊢
  generalize l.length=n at *
  have hn:0<n:=by omega
  have hn':((n:Int) == 0)=false:=by simpa using h0
  obtain ⟨m,rfl⟩:∃ m,n=m+1:=⟨n - 1,by omega⟩
  simp only [Nat.add_sub_cancel] at hx
  clear hcell hg h0
  go_enter Tryz.func75,Tryz.ntmps75
  go_wp2
  go_ret
  exact ⟨rfl,(Below.refl _ _).alloc ql _⟩
theorem nat_Cmp (w:World) (x y:Value) (a b:List Nat) (hx:RL w x a) (hy:RL w y b) (ha:a.length≤1000000000) (hb:b.length≤1000000000) :
  Calls Tryz.prog 122 #[.agg #[x],.agg #[y]] w fun e w'=>e=.returned (.int .i64 (cmpN (val a) (val b)))∧Below w.heap.size w w':=by
 have ha':(wordsOf (val a)).length≤1000000000:=Nat.le_trans ((length_wordsOf _ _).2 (val_lt a hx.2)) ha
 have hb':(wordsOf (val b)).length≤1000000000:=Nat.le_trans ((length_wordsOf _ _).2 (val_lt b hy.2)) hb
 obtain ⟨p,hp⟩:∃ p,p=val a:=⟨_,rfl⟩
 obtain ⟨q,hq⟩:∃ p,p=val b:=⟨_,rfl⟩
 rw [← hp,← hq]
 rw [← hp] at ha'
 rw [← hq] at hb'
 have Hp:=qh hp
 have Hq:=qh hq
 clear hp hq
 go_enter Tryz.func122,Tryz.ntmps122
 go_wp2_with fail
 refine wp_letter (fun w1=>w1.cell? ⟨w.heap.size,0,none⟩=some x∧w1.cell? ⟨w.heap.size+1,0,none⟩=some y∧w.heap.size+2≤w1.heap.size∧Below w.heap.size w w1) ⟨by simp [go_sem],by simp [go_sem],by simp,((Below.refl _ _).alloc (by simp) _).alloc (by simp) _⟩ ?_
 rintro w1 ⟨cx,cy,hN,hB⟩
 have HK:Hid (∀ w',Below (w.heap.size+2) w1 w'→w'.cell? ⟨w.heap.size,0,none⟩=some x∧w'.cell? ⟨w.heap.size+1,0,none⟩=some y∧Below (w.heap.size+2) w1 w'):=fun w' h=>⟨(h.cell (by simp)).trans cx,(h.cell (by simp)).trans cy,h⟩
 have HX:Hid (∀ w',Below (w.heap.size+2) w1 w'→RL w' x a∧RL w' y b):=fun w' h=>⟨hx.below (hB.trans (h.mono (by omega))) ql,hy.below (hB.trans (h.mono (by omega))) ql⟩
 clear hx hy
 go_region_held3 (fun w'=>w'.cell? ⟨w.heap.size,0,none⟩=some x∧w'.cell? ⟨w.heap.size+1,0,none⟩=some y∧Below (w.heap.size+2) w1 w')
  (first|exact HK.out _ (Below.refl _ _).drew|(go_split_ands;first|exact HK.out _ (below_on ‹Below (w.heap.size+2) w1 _› hN hb3)|exact HK.out _ (below_on ‹Below (w.heap.size+2) w1 _› hN hb2)))
  (first|((with_reducible refine (nat_trim _ x a ?_ ha).mono ?_);(exact (HX.out _ (by go_split_ands;assumption)).1);rintro e w2 ⟨v2,rfl,hr2,hb2⟩)|((with_reducible refine (nat_trim _ y b ?_ hb).mono ?_);(exact (HX.out _ (by go_split_ands;assumption)).2);rintro e w3 ⟨v3,rfl,hr3,hb3⟩))
 have HB3:Hid (Below w.heap.size w w3):=by go_split_ands;exact hB.trans (Below.mono ‹_› (by omega))
 have hr2:=hr2.below hb3 ql
 rw [← Hp.out] at hr2
 rw [← Hq.out] at hr3
 obtain ⟨A2,c2,rfl,hc2,hcell2⟩:=hr2.form
 obtain ⟨A3,c3,rfl,hc3,hcell3⟩:=hr3.form
 clear hr2 hr3 hb2 hb3 HK HX hN hB cx cy ha hb Hp Hq
 by_cases hlen:(wordsOf p).length=(wordsOf q).length
 ·have hl1:(((wordsOf p).length:Int) != ((wordsOf q).length:Int))=false:=by rw [hlen];simp
  rw [hlen] at hcell2 
  have hp0:=words_top p
  have hq0:=words_top q
  rw [hlen] at hp0
  rw [← hq0] at hp0
  clear hq0
  have Htop:=qh hp0
  clear hp0
  rw [hlen]
  go_wp2_with fail
  generalize hn:(wordsOf q).length=n at *
  have Hn:=qh hn
  clear hn
  go_loopw [7] (fun i wr=>∃ k:Nat,k≤n∧i=.int .i64 ((k:Int) - 1)∧p / 4294967296 ^ k=q / 4294967296 ^ k∧Below w3.heap.size w3 wr) (fun i _=>(intOf i+1).toNat)
  case atStart=>exact ⟨n,ql,rfl,Htop.out,Below.refl _ _⟩
  case round =>
   obtain ⟨k,hk,rfl,he,hbw⟩:=hrel
   have He:=qh he
   clear he
   by_cases hk0:0<k
   ·obtain ⟨m,rfl⟩:∃ m,k=m+1:=⟨k - 1,by omega⟩
    rw [show (((m+1:Nat):Int) - 1)=(m:Int) by omega]
    obtain ⟨b2,o2,rfl,hx2,hlt2,hxb2⟩:=hcell2 m (by omega)
    obtain ⟨b3,o3,rfl,hx3,hlt3,hxb3⟩:=hcell3 m (by omega)
    have hs:=words_step He.out
    rw [← hbw.cell (p:=⟨b2,o2+m,none⟩) hlt2] at hx2
    rw [← hbw.cell (p:=⟨b3,o3+m,none⟩) hlt3] at hx3
    generalize hg2:(wordsOf p).getD m 0=s at *
    generalize hg3:(wordsOf q).getD m 0=t at *
    have Hg2:=qh hg2
    have Hg3:=qh hg3
    clear hg2 hg3
    have Hs:=qh hs
    have hm0:(0:Int)≤(m:Int):=by omega
    have hmn:(m:Int)<(n:Int):=by omega
    clear hs hcell2 hcell3
    have HBw:=qh hbw
    clear hbw
    by_cases hst:s=t
    ·subst hst
     have hne:((s:Int) != (s:Int))=false:=by simp
     go_wp2_with fail
     go_quiet (fail)
     go_wp2_with fail
     refine ⟨⟨m,by omega,rfl,Hs.out.1 (by first|rfl|trivial),below_drewN HBw.out _⟩,by simp [intOf]⟩
    ·have hne:((s:Int) != (t:Int))=true:=by rw [bne_iff_ne];omega
     go_wp2_with fail
     go_quiet (fail)
     have hx4:(wr.drewN nq).cell? ⟨b2,o2+m,none⟩=some (.int .u32 s):=hx2
     have hx5:(wr.drewN nq).cell? ⟨b3,o3+m,none⟩=some (.int .u32 t):=hx3
     have HB4:Hid (Below w3.heap.size w3 (wr.drewN nq)):=below_drewN HBw.out _
     generalize wr.drewN nq=w4 at hx4 hx5 HB4 ⊢
     clear hx2 hx3 HBw
     by_cases hlt:s<t
     ·go_wp2_with fail
      go_quiet ((go_at_call 179;exact quiet_eq (nat_order _ _)))
      go_wp2
      go_ret
      rw [cmpN_lt (Hs.out.2 hlt)]
      exact ⟨rfl,HB3.out.trans ((below_drewN HB4.out _).mono HB3.out.size)⟩
     ·go_wp2_with fail
      go_quiet ((go_at_call 179;exact quiet_eq (nat_order _ _)))
      go_wp2
      go_ret
      rw [cmpN_gt ((words_step He.out.symm).2 (by rw [Hg2.out,Hg3.out];omega))]
      exact ⟨rfl,HB3.out.trans ((below_drewN HB4.out _).mono HB3.out.size)⟩
   ·obtain rfl:k=0:=by omega
    go_wp2
    go_ret
    refine ⟨?_,HB3.out.trans (hbw.mono HB3.out.size)⟩
    rw [cmpN_eq (by have:=He.out;simpa using this)]
    rfl
 ·have hl1:(((wordsOf p).length:Int) != ((wordsOf q).length:Int))=true:=by rw [bne_iff_ne];omega
  by_cases hlt:(wordsOf p).length<(wordsOf q).length
  ·have Hlt:=qh (cmpN_lt (words_lt hlt))
   generalize (wordsOf p).length=m at *
   generalize (wordsOf q).length=n at *
   clear hcell2 hcell3
   go_wp2_with ((go_at_call 179;refine (nat_order _ _).mono ?_;rintro e w' ⟨rfl,rfl⟩))
   go_ret
   refine ⟨?_,HB3.out⟩
   rw [Hlt.out]
   simp
  ·have Hlt:=qh (cmpN_gt (words_lt (p:=q) (q:=p) (by omega)))
   generalize (wordsOf p).length=m at *
   generalize (wordsOf q).length=n at *
   clear hcell2 hcell3
   go_wp2_with ((go_at_call 179;refine (nat_order _ _).mono ?_;rintro e w' ⟨rfl,rfl⟩))
   go_ret
   refine ⟨?_,HB3.out⟩
   rw [Hlt.out]
   simp
theorem nat_Add (w:World) (x y:Value) (a b:List Nat) (hx:RL w x a) (hy:RL w y b) (ha:a.length≤100000000) (hb:b.length≤100000000) :
  Calls Tryz.prog 202 #[.agg #[x],.agg #[y]] w fun e w'=>∃ v,e=.returned (.agg #[v])∧RN w' v (val a+val b)∧Below w.heap.size w w':=by
 obtain ⟨i0,hi,hz0,hz1,hz2⟩:=info_parts Tryz_info43
 have HX:=qh hx
 have HY:=qh hy
 obtain ⟨A,c,rfl,hc,hdum⟩:=hx.form
 obtain ⟨A2,c2,rfl,hc2,hdum2⟩:=hy.form
 clear hx hy hdum hdum2
 obtain ⟨n,hna,hnb,hn⟩:∃ n,a.length≤n∧b.length≤n∧(a.length<b.length∧n=b.length∨¬ a.length<b.length∧n=a.length):=by
  by_cases h:a.length<b.length
  ·exact ⟨b.length,by omega,ql,.inl ⟨h,rfl⟩⟩
  ·exact ⟨a.length,ql,by omega,.inr ⟨h,rfl⟩⟩
 rcases hn with ⟨hlt,hn⟩|⟨hlt,hn⟩
 all_goals
  have hn8:n≤100000000:=by omega
  have Hn:=qh hn
  clear hn
  go_enter Tryz.func202,Tryz.ntmps202
  go_wp2_with (at_make;go_loud (refine wpList_make_blk _ rfl (.tmp 15) (.tmp 15) 22 rfl 43 i0 (.int .u32 0) Tryz.underlying22 hi hz0 hz1 rfl .i64 .i64 _ _ (n+1) rfl rfl (by rw [Hn.out];simp) (by rw [Hn.out];simp) (by rw [hz2];omega) (by unfold maxLen;omega) ?_))
  go_wp2_with fail
  go_loopw [6,19] (fun s6 s19 wr=>∃ (k q:Nat) (done:List Nat),s19=.int .i64 k∧s6=.int .u64 q∧k≤n+1∧q≤1∧done.length=k∧Wd done ∧
    val done+q * 4294967296 ^ k=val (a.take k)+val (b.take k) ∧
    Blk wr w.heap.size 24 [.slice A a.length c]∧Blk wr (w.heap.size+1) 24 [.slice A2 b.length c2]∧Blk wr (w.heap.size+1+1) 24 [.slice none 0 0] ∧
    Blk wr (w.heap.size+1+1+1) 43 (U32 (done ++ List.replicate (n+1 - k) 0))∧Below w.heap.size w wr) (fun _ i _=>n+1 - (intOf i).toNat)
  case atStart =>
   refine ⟨0,0,[],rfl,rfl,by omega,by omega,rfl,Wd.nil,by simp [val],?_,?_,?_,?_,?_⟩
   ·exact (((Blk.made w 24 _ _ _ rfl rfl).alloc _).alloc _).alloc _
   ·exact ((Blk.made _ 24 _ _ _ (by simp) rfl).alloc _).alloc _
   ·exact (Blk.made _ 24 _ _ _ (by simp) rfl).alloc _
   ·exact Blk.made _ 43 _ _ _ (by simp) (by simp [U32])
   ·exact ((((Below.refl _ _).alloc ql _).alloc (by simp) _).alloc (by simp;omega) _).alloc (by simp;omega) _
  case round =>
   obtain ⟨k,q,done,rfl,rfl,hk,hq,hdl,hdw,hv,B0,B1,B2,B3,hbw⟩:=hrel
   have Hv:=qh hv
   have Hdl:=qh hdl
   have c0:=B0.c1
   have c1:=B1.c1
   clear hv hdl
   by_cases hkn:k<n+1
   ·have hR:=rep_pos (n+1 - k) (by omega)
    rw [hR] at B3
    have HRep:=qh hR
    clear hR
    have hc3:=(B3.cell k).trans (U32_get _ k (by simp [Hdl.out]))
    have hf3:=B3.frozen k
    have HR:=add_round Hdl.out Hv.out
    have hsa:=HX.out.2.getD k
    have hsb:=HY.out.2.getD k
    have HX':Hid (RL wr _ a):=HX.out.below hbw ql
    have HY':Hid (RL wr _ b):=HY.out.below hbw ql
    generalize hs:a.getD k 0=s at *
    generalize ht:b.getD k 0=t at *
    have Hs:=qh hs
    have Ht:=qh ht
    have Hr:=qh HR
    have HB0:=qh B0
    have HB1:=qh B1
    have HB2:=qh B2
    have HB3:=qh B3
    have HBw:=qh hbw
    have hkn':(k:Int)<(n:Int)+1:=by omega
    have h64:IntKind.u64.wrap ((s:Int)+t)=(s:Int)+t:=IntWalk.u64_in _ ⟨by omega,by omega⟩
    have h64b:IntKind.u64.wrap ((q:Int)+((s:Int)+t))=(q:Int)+((s:Int)+t):=IntWalk.u64_in _ ⟨by omega,by omega⟩
    have CA:Hid (∀ m,Calls Tryz.prog 198 #[.slice A a.length c,.int .i64 k] (wr.drewN m) fun e w'=>e=.returned (.int .u64 s)∧wr.drewN m=w'):=fun m=>by
     have h:=nat_at _ _ a k (HX'.out.drewN m) (by omega) (by omega)
     rw [Hs.out] at h;exact h
    have CB:Hid (∀ m,Calls Tryz.prog 198 #[.slice A2 b.length c2,.int .i64 k] (wr.drewN m) fun e w'=>e=.returned (.int .u64 t)∧wr.drewN m=w'):=fun m=>by
     have h:=nat_at _ _ b k (HY'.out.drewN m) (by omega) (by omega)
     rw [Ht.out] at h;exact h
    clear hs ht HR B0 B1 B2 B3 hbw
    go_wp2_with fail
    go_quiet (first|(with_reducible exact quiet_eq (CA.out _))|(with_reducible exact quiet_eq (CB.out _)))
    go_wp2_with fail
    refine ⟨⟨k+1,(q+(s+t)) / 4294967296,done ++ [(q+(s+t)) % 4294967296],by go_num,by go_num,by omega,by omega,by rw [List.length_append,Hdl.out];rfl,hdw.append (Wd.one (by omega)),Hr.out,?_,?_,?_,?_,?_⟩,by simp [intOf];omega⟩
    ·exact ((HB0.out.drewN _).far _ _ (by simp;try omega))
    ·exact ((HB1.out.drewN _).far _ _ (by simp;try omega))
    ·exact ((HB2.out.drewN _).far _ _ (by simp;try omega))
    ·have h:=(HB3.out.drewN nq).put k (.int .u32 (((q+(s+t)) % 4294967296:Nat):Int))
     rw [U32_set,set_mid _ _ _ _ _ Hdl.out,show n+1 - k - 1=n+1 - (k+1) by omega] at h
     have e:((((q+(s+t)) % 4294967296:Nat)):Int)=((q:Int)+((s:Int)+t)) % 4294967296:=by omega
     rw [e] at h
     exact h
    ·exact (below_drewN HBw.out _).setCell (by simp;try omega) _
   ·obtain rfl:k=n+1:=by omega
    have hE:=add_end Hdl.out hdw HX.out.2 HY.out.2 hna hnb Hv.out
    have HE:=qh hE
    rw [Nat.sub_self,List.replicate_zero,List.append_nil] at B3
    have hR:RL wr (.slice (some ⟨w.heap.size+1+1+1,0,none⟩) (n+1) (n+1)) done:=RL_blk B3 hdw (n+1) Hdl.out.symm
    have HRL:=qh hR
    obtain ⟨c2,hf2⟩:=B2.cf1
    have HB2:=qh B2
    have HBw:=qh hbw
    clear hE hR B0 B1 B2 B3 hbw c0 c1
    go_wp2_with ((go_at_call 63;refine (nat_trim _ _ done HRL.out (by rw [Hdl.out];omega)).mono ?_;rintro e w' ⟨v',rfl,hr',hb'⟩;have HR':=qh hr';obtain ⟨A',cc',rfl,-⟩:=hr'.form;have hB2':=HB2.out.below hb' HB2.out.lt;have hc2':=hB2'.cell 0;have hf2':=hB2'.frozen 0;simp only [qqq2] at hc2';have HB2':=qh hB2';have Hb':=qh hb';clear hr' hB2' hb'))
    refine bodyPost_ret (v:=.agg #[.slice A' _ cc']) (by simp [results,Tryz.results202,go_sem,hc2'];try rfl) rfl ?_
    refine ⟨_,rfl,?_,?_⟩
    ·rw [← HE.out]
     exact HR'.out.far HB2'.out (by simp) _ _
    ·exact (HBw.out.trans (Hb'.out.mono HBw.out.size)).setCell (by simp;omega) _
theorem RL.drew {w:World} {v:Value} {l:List Nat} (h:RL w v l):RL w.drew v l:=h.below ((Below.refl _ _).drew) ql
theorem nat_Of (w:World) (n:Nat) (hn:n<18446744073709551616) :
  Calls Tryz.prog 18 #[.int .u64 n] w fun e w'=>∃ v,e=.returned (.agg #[v])∧RN w' v n∧Below w.heap.size w w':=by
 have hv:val [n % 4294967296,n / 4294967296]=n:=by simp only [val];omega
 have Hv:=qh hv
 have hd:Wd [n % 4294967296,n / 4294967296]:=by intro x hx;simp at hx;omega
 have Hd:=qh hd
 have h1:(n:Int) / 4294967296<4294967296:=by omega
 have h2:(0:Int)≤(n:Int) / 4294967296:=by omega
 clear hn hv hd
 go_enter Tryz.func18,Tryz.ntmps18
 go_wp2_with fail
 have B0:Blk ((w.alloc (Obj.cells #[Value.slice none 0 0] 24)).alloc (Obj.cells #[Value.int IntKind.u32 (↑n % 4294967296),Value.int IntKind.u32 (↑n / 4294967296)] 43)) w.heap.size 24 [.slice none 0 0]:=(Blk.made w 24 _ _ _ rfl rfl).alloc _
 have B1:Blk ((w.alloc (Obj.cells #[Value.slice none 0 0] 24)).alloc (Obj.cells #[Value.int IntKind.u32 (↑n % 4294967296),Value.int IntKind.u32 (↑n / 4294967296)] 43)) (w.heap.size+1) 43 (U32 [n % 4294967296,n / 4294967296]):=Blk.made _ 43 _ _ _ (by simp) (by simp [U32])
 refine (nat_trim _ _ _ (RL_blk B1 Hd.out 2 rfl) (by simp)).mono ?_
 rintro e w' ⟨v,rfl,hr,hb⟩
 rw [Hv.out] at hr
 obtain ⟨A,c,rfl,-⟩:=hr.form
 have B2:=B0.below hb B0.lt
 obtain ⟨c2,f2⟩:=B2.cf1
 have HR:=qh hr
 have HB:=qh B2
 have Hb:=qh hb
 clear hr hb B0 B1 B2
 go_wp2
 refine bodyPost_ret (v:=.agg #[.slice A _ c]) (by simp [results,Tryz.results18,go_sem,c2];try rfl) rfl ?_
 refine ⟨_,rfl,HR.out.far HB.out (by simp) _ _,?_⟩
 exact ((((Below.refl _ _).alloc ql _).alloc (by simp) _).trans (Hb.out.mono (by simp;omega))).setCell (by simp) _
theorem u64_and1 (z:Nat) (h:z<18446744073709551616):Go.bits .and .u64 (z:Int) 1=((z % 2:Nat):Int):=by
 have:=Go.u64_and_nat z 1 h (by omega)
 rw [Nat.and_one_is_mod] at this
 exact this
theorem sub_word (s t q:Nat) (hs:s<4294967296) (ht:t<4294967296) (hq:q≤1) :
  ∃ d x r:Nat,IntKind.u64.wrap (IntKind.u64.wrap ((s:Int) - (t:Int)) - (q:Int))=(d:Int)∧(d:Int) % 4294967296=x∧Go.bits .and .u64 ((d:Int) / 4294967296) 1=r∧r≤1∧(x<4294967296∧x+t+q=s+r * 4294967296):=by
 have hw:∀ n:Int,IntKind.u64.wrap n=n % 18446744073709551616:=fun n=>by simp [IntKind.wrap,IntKind.bits,IntKind.signed]
 simp only [hw]
 by_cases h:t+q≤s
 ·refine ⟨s - t - q,s - t - q,0,by omega,by omega,?_,by omega,by omega,by omega⟩
  rw [show ((s - t - q:Nat):Int) / 4294967296=((0:Nat):Int) by omega,u64_and1 0 (by omega)]
 ·refine ⟨18446744073709551616+s - t - q,4294967296+s - t - q,1,by omega,by omega,?_,by omega,by omega,by omega⟩
  rw [show ((18446744073709551616+s - t - q:Nat):Int) / 4294967296=((4294967295:Nat):Int) by omega,u64_and1 _ (by omega)]
theorem nat_Sub (w:World) (x y:Value) (a b:List Nat) (hx:RL w x a) (hy:RL w y b) (ha:a.length≤100000000) (hb:b.length≤100000000) (hle:val b≤val a) :
  Calls Tryz.prog 203 #[.agg #[x],.agg #[y]] w fun e w'=>∃ v,e=.returned (.tuple #[.agg #[v],.bool true])∧RN w' v (val a - val b)∧Below w.heap.size w w':=by
 obtain ⟨i0,hi,hz0,hz1,hz2⟩:=info_parts Tryz_info43
 have HX:=qh hx
 have HY:=qh hy
 obtain ⟨A,c,rfl,hc,hdum⟩:=hx.form
 obtain ⟨A2,c2,rfl,hc2,hdum2⟩:=hy.form
 have hcmp:decide (cmpN (val a) (val b)<0)=false:=by
  rcases Nat.lt_or_ge (val b) (val a) with h|h
  ·rw [cmpN_gt h];rfl
  ·rw [cmpN_eq (by omega)];rfl
 generalize hcc:cmpN (val a) (val b)=cc at hcmp
 have Hcc:=qh hcc
 clear hx hy hdum hdum2 hcc
 go_enter Tryz.func203,Tryz.ntmps203
 go_wp2_with fail
 have B0:Blk (((w.alloc (.cells #[.slice A a.length c] 24)).alloc (.cells #[.slice A2 b.length c2] 24)).alloc (.cells #[.slice none 0 0] 24)) w.heap.size 24 [.slice A a.length c]:=((Blk.made w 24 _ _ _ rfl rfl).alloc _).alloc _
 have B1:Blk (((w.alloc (.cells #[.slice A a.length c] 24)).alloc (.cells #[.slice A2 b.length c2] 24)).alloc (.cells #[.slice none 0 0] 24)) (w.heap.size+1) 24 [.slice A2 b.length c2]:=(Blk.made _ 24 _ _ _ (by simp) rfl).alloc _
 have B2:Blk (((w.alloc (.cells #[.slice A a.length c] 24)).alloc (.cells #[.slice A2 b.length c2] 24)).alloc (.cells #[.slice none 0 0] 24)) (w.heap.size+1+1) 24 [.slice none 0 0]:=(Blk.made _ 24 _ _ _ (by simp) rfl)
 have BB:Below w.heap.size w (((w.alloc (.cells #[.slice A a.length c] 24)).alloc (.cells #[.slice A2 b.length c2] 24)).alloc (.cells #[.slice none 0 0] 24)):=(((Below.refl _ _).alloc ql _).alloc (by simp) _).alloc (by simp;omega) _
 refine (nat_Cmp _ _ _ a b (HX.out.below BB ql) (HY.out.below BB ql) (by omega) (by omega)).mono ?_
 rintro e w1 ⟨rfl,hb1⟩
 rw [Hcc.out]
 have hz:w.heap.size+1+1+1≤w1.heap.size:=by have:=hb1.size;simp at this;omega
 replace B0:=B0.below hb1 B0.lt
 replace B1:=B1.below hb1 B1.lt
 replace B2:=B2.below hb1 B2.lt
 replace BB:=BB.trans (hb1.mono BB.size)
 clear hb1
 have c0:=B0.c1
 have c1:=B1.c1
 have HB0:=qh B0
 have HB1:=qh B1
 have HB2:=qh B2
 have HBB:=qh BB
 clear B0 B1 B2 BB
 generalize hn:a.length=n at *
 have Hn:=qh hn
 clear hn
 go_wp2_with (at_make;go_loud (refine wpList_make_blk _ rfl (.tmp 17) (.tmp 17) 22 rfl 43 i0 (.int .u32 0) Tryz.underlying22 hi hz0 hz1 rfl .i64 .i64 _ _ n rfl rfl rfl rfl (by rw [hz2];omega) (by unfold maxLen;omega) ?_))
 go_wp2_with fail
 generalize hg:w1.heap.size=g at *
 go_loopw [7,21] (fun s7 s21 wr=>∃ (k q:Nat) (done:List Nat),s21=.int .i64 k∧s7=.int .u64 q∧k≤n∧q≤1∧done.length=k∧Wd done ∧
   val done+val (b.take k)=val (a.take k)+q * 4294967296 ^ k ∧
   Blk wr w.heap.size 24 [.slice A n c]∧Blk wr (w.heap.size+1) 24 [.slice A2 b.length c2]∧Blk wr (w.heap.size+1+1) 24 [.slice none 0 0] ∧
   Blk wr g 43 (U32 (done ++ List.replicate (n - k) 0))∧Below w.heap.size w wr) (fun _ i _=>n - (intOf i).toNat)
 case atStart =>
  refine ⟨0,0,[],rfl,rfl,by omega,by omega,rfl,Wd.nil,by simp [val],HB0.out.alloc _,HB1.out.alloc _,HB2.out.alloc _,?_,HBB.out.alloc (by omega) _⟩
  exact Blk.made _ 43 _ _ _ hg.symm (by simp [U32])
 case round =>
  obtain ⟨k,q,done,rfl,rfl,hk,hq,hdl,hdw,hv,B0,B1,B2,B3,hbw⟩:=hrel
  have Hv:=qh hv
  have Hdl:=qh hdl
  have Hg:=qh hg
  have c0:=B0.c1
  have c1:=B1.c1
  clear hv hdl hg
  by_cases hkn:k<n
  ·have hR:=rep_pos (n - k) (by omega)
   rw [hR] at B3
   have HRep:=qh hR
   clear hR
   have hc3:=(B3.cell k).trans (U32_get _ k (by simp [Hdl.out]))
   have hf3:=B3.frozen k
   have hsa:=HX.out.2.getD k
   have hsb:=HY.out.2.getD k
   have HX':Hid (RL wr _ a):=HX.out.below hbw ql
   have HY':Hid (RL wr _ b):=HY.out.below hbw ql
   obtain ⟨d,x,r,hd1,hd2,hd3,hd4,hx4⟩:∃ d x r:Nat,IntKind.u64.wrap (IntKind.u64.wrap ((a.getD k 0:Nat) - (b.getD k 0:Nat)) - (q:Int))=(d:Int)∧(d:Int) % 4294967296=x∧Go.bits .and .u64 ((d:Int) / 4294967296) 1=r∧r≤1∧(x<4294967296∧x+b.getD k 0+q=a.getD k 0+r * 4294967296):=sub_word _ _ _ hsa hsb hq
   have HR:Hid (_ ):=sub_round Hdl.out Hv.out hx4.2
   generalize hs:a.getD k 0=s at *
   generalize ht:b.getD k 0=t at *
   have Hs:=qh hs
   have Ht:=qh ht
   have Hx4:=qh hx4
   have HB0:=qh B0
   have HB1:=qh B1
   have HB2:=qh B2
   have HB3:=qh B3
   have HBw:=qh hbw
   have hkn':(k:Int)<(n:Int):=by omega
   have CA:Hid (∀ m,Calls Tryz.prog 198 #[.slice A n c,.int .i64 k] (wr.drewN m) fun e w'=>e=.returned (.int .u64 s)∧wr.drewN m=w'):=fun m=>by
    have h:=nat_at _ _ a k (HX'.out.drewN m) (by rw [Hn.out];omega) (by omega)
    rw [Hs.out] at h;exact h
   have CB:Hid (∀ m,Calls Tryz.prog 198 #[.slice A2 b.length c2,.int .i64 k] (wr.drewN m) fun e w'=>e=.returned (.int .u64 t)∧wr.drewN m=w'):=fun m=>by
    have h:=nat_at _ _ b k (HY'.out.drewN m) (by omega) (by omega)
    rw [Ht.out] at h;exact h
   clear hs ht B0 B1 B2 B3 hbw hx4
   go_wp2_with fail
   go_quiet (first|(with_reducible exact quiet_eq (CA.out _))|(with_reducible exact quiet_eq (CB.out _)))
   go_wp2_with fail
   refine ⟨⟨k+1,r,done ++ [x],by go_num,by go_num,by omega,hd4,by rw [List.length_append,Hdl.out];rfl,hdw.append (Wd.one Hx4.out.1),HR.out,?_,?_,?_,?_,?_⟩,by simp [intOf];omega⟩
   ·exact ((HB0.out.drewN _).far _ _ (by simp;try omega))
   ·exact ((HB1.out.drewN _).far _ _ (by simp;try omega))
   ·exact ((HB2.out.drewN _).far _ _ (by simp;try omega))
   ·have h:=(HB3.out.drewN nq).put k (.int .u32 (x:Int))
    rw [U32_set,set_mid _ _ _ _ _ Hdl.out,show n - k - 1=n - (k+1) by omega] at h
    exact h
   ·exact (below_drewN HBw.out _).setCell (by simp;try omega) _
  ·obtain rfl:k=n:=by omega
   have HE:Hid _:=sub_end Hdl.out hdw HX.out.2 Hn.out hle Hv.out
   rw [Nat.sub_self,List.replicate_zero,List.append_nil] at B3
   have HRL:Hid (RL wr (.slice (some ⟨g,0,none⟩) k k) done):=RL_blk B3 hdw k Hdl.out.symm
   obtain ⟨c2,hf2⟩:=B2.cf1
   have HB2:=qh B2
   have HBw:=qh hbw
   clear B0 B1 B2 B3 hbw c0 c1
   go_wp2_with ((go_at_call 63;refine (nat_trim _ _ done HRL.out (by rw [Hdl.out];omega)).mono ?_;rintro e w' ⟨v',rfl,hr',hb'⟩;have HR':=qh hr';obtain ⟨A',cc',rfl,-⟩:=hr'.form;have hB2':=HB2.out.below hb' HB2.out.lt;have hc2':=hB2'.cell 0;have hf2':=hB2'.frozen 0;simp only [qqq2] at hc2';have HB2':=qh hB2';have Hb':=qh hb';clear hr' hB2' hb'))
   refine bodyPost_ret (v:=.tuple #[.agg #[.slice A' _ cc'],.bool true]) (by simp [results,Tryz.results203,go_sem,hc2'];try rfl) rfl ?_
   refine ⟨_,rfl,?_,?_⟩
   ·rw [← HE.out]
    exact HR'.out.far HB2'.out (by simp) _ _
   ·exact (HBw.out.trans (Hb'.out.mono HBw.out.size)).setCell (by simp;omega) _
theorem nat_Sub_no (w:World) (x y:Value) (a b:List Nat) (hx:RL w x a) (hy:RL w y b) (ha:a.length≤100000000) (hb:b.length≤100000000) (hlt:val a<val b) :
  Calls Tryz.prog 203 #[.agg #[x],.agg #[y]] w fun e w'=>e=.returned (.tuple #[.agg #[.slice none 0 0],.bool false])∧Below w.heap.size w w':=by
 have HX:=qh hx
 have HY:=qh hy
 obtain ⟨A,c,rfl,hc,hdum⟩:=hx.form
 obtain ⟨A2,c2,rfl,hc2,hdum2⟩:=hy.form
 have hcmp:decide (cmpN (val a) (val b)<0)=true:=by rw [cmpN_lt hlt];rfl
 generalize hcc:cmpN (val a) (val b)=cc at hcmp
 have Hcc:=qh hcc
 clear hx hy hdum hdum2 hcc
 go_enter Tryz.func203,Tryz.ntmps203
 go_wp2_with fail
 have B2:Blk (((w.alloc (.cells #[.slice A a.length c] 24)).alloc (.cells #[.slice A2 b.length c2] 24)).alloc (.cells #[.slice none 0 0] 24)) (w.heap.size+1+1) 24 [.slice none 0 0]:=(Blk.made _ 24 _ _ _ (by simp) rfl)
 have BB:Below w.heap.size w (((w.alloc (.cells #[.slice A a.length c] 24)).alloc (.cells #[.slice A2 b.length c2] 24)).alloc (.cells #[.slice none 0 0] 24)):=(((Below.refl _ _).alloc ql _).alloc (by simp) _).alloc (by simp;omega) _
 refine (nat_Cmp _ _ _ a b (HX.out.below BB ql) (HY.out.below BB ql) (by omega) (by omega)).mono ?_
 rintro e w1 ⟨rfl,hb1⟩
 rw [Hcc.out]
 replace B2:=B2.below hb1 B2.lt
 replace BB:=BB.trans (hb1.mono BB.size)
 obtain ⟨c2,hf2⟩:=B2.cf1
 have HBB:=qh BB
 clear hb1 BB B2
 go_wp2
 refine bodyPost_ret (v:=.tuple #[.agg #[.slice none 0 0],.bool false]) (by simp [results,Tryz.results203,go_sem,c2];try rfl) rfl ?_
 exact ⟨rfl,HBB.out.setCell (by simp;omega) _⟩
end Go.Proofs.YtdgleeglndcjhaaGreatDoor
