/- PROVED: the tied card of 'cubitlaw20.PluralSays': whatever the rows,the language and the numeral,the law returns true and leaves them as they were. CONDITIONS: the listed package-level variables read as the program's text lays them (the card ties them);nothing else narrows it. -/
import Derived.Test.YtdgleeglndcjhaaGreatDoorX42
import Derived.Test.YtdgleeglndcjhaaGreatDoorX43
import Derived.Test.YtdgleeglndcjhaaGreatDoorCards
import Derived.Test.YtdgleeglndcjhaaGreatDoorTie
import Derived.SevenTiedAt
namespace Go.Proofs.YtdgleeglndcjhaaGreatDoor
open Go.ChangeShapes Go.WideShapes Go.ChangeAt Go.RowKit
open Go.ChangeMaps (open_string shut_string)
set_option linter.unusedVariables false
set_option maxRecDepth 100000 in
theorem pluralSays_lifted (os:Os) (started:os.Started) (H:Type) (enc:TypeId × Value→H) :
  ReturnsInHanded {} Tryz.checked os 11 .any (fun w args=>(Rows.pluralSaysSpec.pre enc Tryz.prog Tryz.f11 [] false w args∧laidMet Tryz.prog laidL w)∧sizedMet enc Tryz.prog Tryz.f11 (OpenSpec.ofChange Rows.pluralSaysSpec) false w args)
   (Rows.pluralSaysSpec.post enc Tryz.prog Tryz.f11 false true false false):=by
 refine returnsInHanded_and_shaped (C:=Tryz.checked) (X:=fun w _=>laidMet Tryz.prog laidL w) (fun _ _ _ hh h=>h.of_heap hh) Tryz.own started (by kernel_rfl) Tryz.func11
  (ChangeSpec.witness_at (enc:=enc) (C:=Tryz.checked) (os:=os) (X:=fun w _=>laidMet Tryz.prog laidL w) false (laidWorld os) #[.slice none 0 0,.string ⟨#[]⟩,.agg #[.bool false,.slice none 0 0,.int .i64 0]] 8 rfl (by kernel_rfl) (by kernel_rfl) (by kernel_rfl) (by kernel_rfl) (by kernel_rfl) (laidWorld_met os _)) ?_
 intro W base args ds gs before hval0 hW hL hsh;have hval:∀ (j:Nat) t v,Tryz.f11.params[j]?=some t→args[j]?=some v→Value.okWide Tryz.prog W .any base t v:=hval0;have hW':=hW;obtain ⟨p,q,hA0,hV,rfl,_,_⟩:=hW;have hA:DataW.TrodAll enc Tryz.prog W 0 (fun _=>true) true Tryz.f11.params.toList args.toList ds p:=hA0;rw [Tryz.params11] at hA hval;obtain ⟨v0,v1,v2,d0,d1,d2,p0,p1,p2,rfl,rfl,rfl,h0,h1,h2⟩:=trodAll_three hA;obtain ⟨rfl,rfl⟩:=trodVars_none hV;clear hA0 hval0;rw [List.append_assoc p0 p1 p2] at hW';have hlt0:∀ x ∈ p0,x.block<W.heap.size:=fun x hx=>by simpa using hW'.lt x (by simp [hx])
 have k0:∀ W',Below W.heap.size W W'→DataW.Trod enc Tryz.prog W' 0 (fun b=>decide (b<W.heap.size)) true 82 v0 d0 p0:=fun W' hb=>Below.trod Tryz.laidOut (by kernel_rfl) (of_decide_eq_true (by kernel_rfl)) h0 hb hlt0;have hlt1:∀ x ∈ p1,x.block<W.heap.size:=fun x hx=>by simpa using hW'.lt x (by simp [hx])
 have k1:∀ W',Below W.heap.size W W'→DataW.Trod enc Tryz.prog W' 0 (fun b=>decide (b<W.heap.size)) true 9 v1 d1 p1:=fun W' hb=>Below.trod Tryz.laidOut (by kernel_rfl) (of_decide_eq_true (by kernel_rfl)) h1 hb hlt1;have hlt2:∀ x ∈ p2,x.block<W.heap.size:=fun x hx=>by simpa using hW'.lt x (by simp [hx])
 have k2:∀ W',Below W.heap.size W W'→DataW.Trod enc Tryz.prog W' 0 (fun b=>decide (b<W.heap.size)) true 26 v2 d2 p2:=fun W' hb=>Below.trod Tryz.laidOut (by kernel_rfl) (of_decide_eq_true (by kernel_rfl)) h2 hb hlt2;obtain ⟨RA,rn,rc,rfl⟩:=okWide_slice Tryz.underlying82 (hval 0 82 v0 rfl rfl);obtain ⟨fu0,hfu0⟩:=h0;obtain ⟨RA',rn',rc',L,hre,hR⟩:=open_rows (enc:=enc) (by simpa [Value.cells] using hfu0);cases hre
 obtain ⟨s1,rfl,-,-,hs1⟩:=open_string Tryz.underlying9 (hval 1 9 v1 rfl rfl) h1;obtain ⟨b2,A2,n2,c2,l2,sc2,rfl,hl2⟩:=open_dec (hval 2 26 v2 rfl rfl) h2;refine (law_PluralSaysS W RA rn rc L s1 b2 A2 n2 c2 l2 sc2 (gw_of hsh hL) hR hs1 hl2).mono fun e W' ⟨he,hb⟩=>?_;subst he;exact ⟨_,rfl,_,_,_,[],p0 ++ (p1 ++ p2),[],hW',trodAll_mk1 (shut_bool Tryz.underlying4 true),trodAll_mk3 (k0 W' hb) (k1 W' hb) (k2 W' hb),rfl,hb.frame _,fun h=>by cases h⟩
set_option maxHeartbeats 4000000 in
theorem pluralSays_holds:Rows.PluralSaysSaid :=
 OpenClaim.holds_of_wide 11 Tryz.f11 rfl rfl rfl rfl rfl rfl rfl ⟨rfl,rfl,rfl,rfl,rfl⟩ rfl rfl rfl rfl rfl (by as_aux_lemma=>kernel_rfl) Tryz.func11 (by as_aux_lemma=>kernel_rfl)
  (of_decide_eq_true (by as_aux_lemma=>kernel_rfl)) (by unfold Func.isWrapper;rw [if_neg (of_decide_eq_false (by as_aux_lemma=>kernel_rfl))];exact ⟨rfl,rfl⟩)
  (fun os started H enc _=>pluralSays_lifted os started H enc)
theorem pluralSays_card_holds:Rows.PluralSaysCardSaid :=
 Claim7.holds_tied_plain_at .later [] [.data, .data, .data, .data, .sentinel, .sentinel, .pinned] true (true, "ad18e35032db7dfc4837fe7a16005cdbbcc3bcb790952796527d307c34b52375") true
  pluralSays_holds (fun _ h=>by cases h) (by kernel_rfl) (fun _ h=>by cases h) pluralSays_row_tie rfl ⟨rfl,rfl⟩ (by kernel_rfl) rfl
  (fun f fn hf hfn=>by
   obtain rfl : f = 11 := Option.some.inj ((show Tryz.prog.funcNamed "cubit/cubitlaw20.PluralSays" = some 11 by kernel_rfl).symm.trans hf) |>.symm;obtain rfl:fn=Tryz.f11:=(Option.some.inj (Tryz.func11.symm.trans hfn)).symm
   exact ⟨by kernel_rfl,fun j t ht=>by
    rw [Tryz.params11] at ht
    have h3:t=9∨t=26∨t=82:=by
     rcases j with _|_|_|j
     ·obtain rfl:t=82:=by simpa using ht.symm
      simp
     ·obtain rfl:t=9:=by simpa using ht.symm
      simp
     ·obtain rfl:t=26:=by simpa using ht.symm
      simp
     ·simp at ht
    rcases h3 with rfl|rfl|rfl
    ·exact (show Tryz.prog.wantsStandIn 9=false by kernel_rfl)
    ·exact (show Tryz.prog.wantsStandIn 26=false by kernel_rfl)
    ·exact (show Tryz.prog.wantsStandIn 82=false by kernel_rfl)⟩)
  (by kernel_rfl)
#print axioms pluralSays_card_holds
end Go.Proofs.YtdgleeglndcjhaaGreatDoor
