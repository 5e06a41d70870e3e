import Derived.Lib.SplitLaws
import Derived.Lib.Join
import Derived.Lib.Atoi
import Derived.Lib.ItoaNum
import Derived.Lib.IndexLaws
set_option linter.unusedSectionVars false
set_option linter.unusedSimpArgs false
set_option linter.unusedVariables false
namespace Go.Proofs.YtdgleeglndcjhaaGreatDoor
section split
variable {α:Type} [DecidableEq α]
def splitG (c:α):List α→List (List α)
 | []=>[[]]
 | b :: l=>if b=c then [] :: splitG c l else
  match splitG c l with
  | []=>[[b]]
  | h :: t=>(b :: h) :: t
theorem splitG_ne (c:α):∀ l,splitG c l≠[]
 | []=>by simp [splitG]
 | b :: l=>by
  unfold splitG;split
  ·simp
  ·split <;> simp
theorem splitG_ex (c:α) (l:List α):∃ h t,splitG c l=h :: t:=by
 cases e:splitG c l with
 | nil=>exact absurd e (splitG_ne c l)
 | cons h t=>exact ⟨h,t,rfl⟩
theorem splitG_eq (c:α) (l:List α):splitG c (c :: l)=[] :: splitG c l:=by simp [splitG]
theorem splitG_other {b c:α} (hb:b≠c) {l h:List α} {t:List (List α)} (e:splitG c l=h :: t):splitG c (b :: l)=(b :: h) :: t:=by
 unfold splitG;rw [if_neg hb,e]
theorem splitG_app (c:α):∀ a b:List α,splitG c (a ++ c :: b)=splitG c a ++ splitG c b
 | [],b=>by simp [splitG]
 | x :: a,b=>by
  obtain ⟨h1,t1,e1⟩:=splitG_ex c a;have e2:=splitG_app c a b;by_cases h:x=c
  ·subst h;rw [List.cons_append,splitG_eq,splitG_eq,e2];rfl
  ·rw [e1,List.cons_append] at e2;rw [List.cons_append,splitG_other h e2,splitG_other h e1];rfl
theorem splitG_free (c:α):∀ l:List α,c ∉ l→splitG c l=[l]
 | [],_=>rfl
 | b :: l,h=>by
  have hb:b≠c:=fun e=>h (by simp [e]);exact splitG_other hb (splitG_free c l (fun hm=>h (List.mem_cons_of_mem _ hm)))
def joinG (c:α):List (List α)→List α
 | []=>[]
 | [x]=>x
 | x :: y :: r=>x ++ c :: joinG c (y :: r)
theorem joinG_cons (c:α) (x:List α) {r:List (List α)} (h:r≠[]):joinG c (x :: r)=x ++ c :: joinG c r:=by
 cases r with
 | nil=>exact absurd rfl h
 | cons y r=>rfl
theorem joinG_append (c:α):∀ (a b:List (List α)),a≠[]→b≠[]→joinG c (a ++ b)=joinG c a ++ c :: joinG c b
 | [],_,h,_=>absurd rfl h
 | [x],b,_,hb=>by rw [List.singleton_append,joinG_cons c x hb];rfl
 | x :: y :: r,b,_,hb=>by
  have ih:=joinG_append c (y :: r) b (by simp) hb;rw [List.cons_append,joinG_cons c x (by simp),ih];simp [joinG]
theorem joinG_split (c:α):∀ l:List α,joinG c (splitG c l)=l
 | []=>rfl
 | b :: l=>by
  have ih:=joinG_split c l;by_cases hb:b=c
  ·subst hb;rw [splitG_eq,joinG_cons b _ (splitG_ne b l),ih];rfl
  ·obtain ⟨h1,t1,e1⟩:=splitG_ex c l;rw [splitG_other hb e1];rw [e1] at ih;cases t1 with
   | nil=>simp only [joinG] at ih ⊢;rw [ih]
   | cons y r=>simp only [joinG,List.cons_append] at ih ⊢;rw [ih]
theorem splitG_join (c:α):∀ ws:List (List α),ws≠[]→(∀ w ∈ ws,c ∉ w)→splitG c (joinG c ws)=ws
 | [],h,_=>absurd rfl h
 | [x],_,h=>by
  show splitG c x=[x];exact splitG_free c x (h x (by simp))
 | x :: y :: r,_,h=>by
  show splitG c (x ++ c :: joinG c (y :: r))=_;rw [splitG_app,splitG_free c x (h x (by simp)),splitG_join c (y :: r) (by simp) (fun w hw=>h w (List.mem_cons_of_mem _ hw))]
  rfl
end split
abbrev Bs:=List UInt8
theorem join_eq_joinG (c:UInt8):∀ ws:List Bs,Lib.join ws [c]=joinG c ws
 | []=>rfl
 | [x]=>by rw [Lib.join_one];rfl
 | x :: y :: r=>by
  have ih:=join_eq_joinG c (y :: r);show _=x ++ c :: joinG c (y :: r);rw [← ih];simp [Lib.join,List.intercalate]
def all? {α β:Type} (f:α→Option β):List α→Option (List β)
 | []=>some []
 | a :: l=>match f a with
  | none=>none
  | some b=>match all? f l with
   | none=>none
   | some r=>some (b :: r)
inductive F2 {α β:Type} (R:α→β→Prop):List α→List β→Prop
 | nil:F2 R [] []
 | cons {a b l r}:R a b→F2 R l r→F2 R (a :: l) (b :: r)
theorem all?_F2 {α β:Type} {f:α→Option β}:∀ {l:List α} {r:List β},all? f l=some r→F2 (fun a b=>f a=some b) l r
 | [],r,h=>by simp [all?] at h;subst h;exact .nil
 | a :: l,r,h=>by
  unfold all? at h;split at h
  ·cases h
  ·rename_i b hb;split at h
   ·cases h
   ·rename_i r' hr;cases h
    exact .cons hb (all?_F2 hr)
theorem F2.all? {α β:Type} {f:α→Option β}:∀ {l:List α} {r:List β},F2 (fun a b=>f a=some b) l r→Go.Proofs.YtdgleeglndcjhaaGreatDoor.all? f l=some r
 | _,_,.nil=>rfl
 | _,_,.cons h hs=>by simp [Go.Proofs.YtdgleeglndcjhaaGreatDoor.all?,h,hs.all?]
theorem all?_append {α β:Type} {f:α→Option β}:∀ {l l':List α} {r r':List β},all? f l=some r→all? f l'=some r'→all? f (l ++ l')=some (r ++ r')
 | [],l',r,r',h,h'=>by simp [all?] at h;subst h;exact h'
 | a :: l,l',r,r',h,h'=>by
  unfold all? at h;split at h
  ·cases h
  ·rename_i b hb;split at h
   ·cases h
   ·rename_i r1 hr;cases h
    simp [all?,hb,all?_append hr h']
theorem F2.mono {α β:Type} {R S:α→β→Prop} (hRS:∀ a b,R a b→S a b):∀ {l:List α} {r:List β},F2 R l r→F2 S l r
 | _,_,.nil=>.nil
 | _,_,.cons h hs=>.cons (hRS _ _ h) (hs.mono hRS)
theorem F2.right {α β:Type} {R:α→β→Prop} {p:β→Prop} (hp:∀ a b,R a b→p b):∀ {l:List α} {r:List β},F2 R l r→∀ b ∈ r,p b
 | _,_,.nil,_,h=>by cases h
 | _,_,.cons h hs,b,hb=>by
  rcases List.mem_cons.1 hb with rfl|hb
  ·exact hp _ _ h
  ·exact hs.right hp b hb
theorem F2.left {α β:Type} {R:α→β→Prop} {p:α→Prop} (hp:∀ a b,R a b→p a):∀ {l:List α} {r:List β},F2 R l r→∀ a ∈ l,p a
 | _,_,.nil,_,h=>by cases h
 | _,_,.cons h hs,a,ha=>by
  rcases List.mem_cons.1 ha with rfl|ha
  ·exact hp _ _ h
  ·exact hs.left hp a ha
theorem F2.nil_iff {α β:Type} {R:α→β→Prop} {l:List α} {r:List β} (h:F2 R l r):l=[]↔r=[]:=by
 cases h <;> simp
theorem F2.len {α β:Type} {R:α→β→Prop}:∀ {l:List α} {r:List β},F2 R l r→l.length=r.length
 | _,_,.nil=>rfl
 | _,_,.cons h hs=>by simp [hs.len]
theorem F2.of_map_mem {α β:Type} {R:α→β→Prop} (g:β→α):∀ r:List β,(∀ b ∈ r,R (g b) b)→F2 R (r.map g) r
 | [],_=>.nil
 | b :: r,h=>.cons (h b (by simp)) (F2.of_map_mem g r fun b hb=>h b (List.mem_cons_of_mem _ hb))
theorem F2.join_len {β γ:Type} {R:β→γ→Prop} (sep:Bs) (f:β→Bs) (g:γ→Bs) (hR:∀ a b,R a b→(g b).length≤(f a).length):∀ {l:List β} {r:List γ},F2 R l r→(Lib.join (r.map g) sep).length≤(Lib.join (l.map f) sep).length
 | _,_,.nil=>Nat.le_refl _
 | _,_,.cons (a:=a) (b:=b) (l:=l) (r:=r) h hs=>by
  have h1:=hR _ _ h;have hl:=hs.len
  have aux:∀ {l:List β} {r:List γ},F2 R l r→Lib.lens (r.map g)≤Lib.lens (l.map f):=by
   intro l r hs
   induction hs with
   | nil=>exact Nat.le_refl _
   | cons h _ ih=>have:=hR _ _ h;simp only [List.map_cons,Lib.lens,List.sum_cons] at *;omega
  have h2:=aux hs;rw [List.map_cons,List.map_cons,Lib.join_length,Lib.join_length];simp only [List.length_map,← hl];simp only [Lib.lens,List.map_cons,List.sum_cons] at h2 ⊢;omega
def isDig (b:UInt8):Bool:=decide (48≤b.toNat∧b.toNat≤57)
theorem isDig_val (b:UInt8):isDig b=(Lib.digitVal b).isSome:=by
 unfold isDig Lib.digitVal;split <;> simp_all
def num? (s:Bs):Option Nat:=if s=[]∨9<s.length∨(1<s.length∧s.head?=some 48) then none else Lib.decNat s
theorem decFrom_app (a:Bs):∀ (acc n:Nat) (b:Bs),Lib.decFrom acc a=some n→Lib.decFrom acc (a ++ b)=Lib.decFrom n b:=by
 induction a with
 | nil=>intro acc n b h;simp [Lib.decFrom] at h;subst h;rfl
 | cons x a ih =>
  intro acc n b h;simp only [Lib.decFrom,List.cons_append] at h ⊢;split at h
  ·rename_i d hd;simp only [ih _ _ _ h]
  ·cases h
theorem u8 (n:Nat) (h:n<256):(UInt8.ofNat n).toNat=n:=by
 simp only [UInt8.toNat_ofNat'];omega
theorem digitVal_of (d:Nat) (h:d<10):Lib.digitVal (UInt8.ofNat (48+d))=some d:=by
 have e:(UInt8.ofNat (48+d)).toNat=48+d:=u8 _ (by omega);unfold Lib.digitVal;rw [e,if_pos (by omega)];simp
theorem decFrom_decDigits (u:Nat):Lib.decFrom 0 (Lib.decDigits u)=some u:=by
 induction u using Nat.strongRecOn with
 | _ u ih =>
  rw [Lib.decDigits];split
  ·rename_i h;simp only [Lib.decFrom,digitVal_of u h,Nat.zero_mul,Nat.zero_add]
  ·rename_i h;rw [decFrom_app _ _ _ _ (ih (u / 10) (by omega))];simp only [Lib.decFrom,digitVal_of (u % 10) (by omega)]
   congr 1;omega
theorem decDigits_ne (u:Nat):Lib.decDigits u≠[]:=by
 rw [Lib.decDigits];split <;> simp
theorem decDigits_dig (u:Nat):∀ b ∈ Lib.decDigits u,isDig b=true:=by
 intro b hb;obtain ⟨k,hk⟩:=List.getElem?_of_mem hb;obtain ⟨d,hd⟩:=Lib.digit_of_decFrom _ 0 u (decFrom_decDigits u) k b hk;rw [isDig_val,hd];rfl
theorem decDigits_head (u:Nat) (h0:u≠0):(Lib.decDigits u).head?≠some 48:=by
 induction u using Nat.strongRecOn with
 | _ u ih =>
  rw [Lib.decDigits];split
  ·rename_i h;intro he;simp only [List.head?_cons,Option.some.injEq] at he;have:(UInt8.ofNat (48+u)).toNat=48:=by rw [he];rfl
   rw [u8 _ (by omega)] at this;omega
  ·rename_i h;have:=ih (u / 10) (by omega) (by omega);rw [List.head?_append];cases e:(Lib.decDigits (u / 10)).head? with
   | none =>
    have:=List.head?_eq_none_iff.1 e;exact absurd this (decDigits_ne _)
   | some x=>rw [e] at this;simpa using this
theorem decDigits_len (u:Nat) (h:u<1000000000):(Lib.decDigits u).length≤9:=by
 rw [Lib.decDigits_length];rcases Nat.lt_or_ge 9 (Lib.nDigits u) with h9|h9
 ·exfalso
  -- nDigits u ≥ 10 gives u ≥ 10^9
  have:∀ (k u:Nat),k+1<Lib.nDigits u→10 ^ (k+1)≤u:=by
   intro k
   induction k with
   | zero =>
    intro u hu;by_cases h:u<10
    ·rw [Lib.nDigits_small h] at hu;omega
    ·simp;omega
   | succ k ih =>
    intro u hu;by_cases h:u<10
    ·rw [Lib.nDigits_small h] at hu;omega
    ·rw [Lib.nDigits_big h] at hu;have:=ih (u / 10) (by omega);rw [Nat.pow_succ];omega
  have:=this 8 u h9;simp at this;omega
 ·exact h9
theorem num?_decDigits (u:Nat) (h:u<1000000000):num? (Lib.decDigits u)=some u:=by
 unfold num?;rw [if_neg]
 ·unfold Lib.decNat;rw [if_neg (by simp [decDigits_ne])];exact decFrom_decDigits u
 ·rintro (h1|h1|⟨h1,h2⟩)
  ·exact decDigits_ne u h1
  ·have:=decDigits_len u h;omega
  ·by_cases h0:u=0
   ·subst h0;rw [Lib.decDigits_one (by omega)] at h1;simp at h1
   ·exact decDigits_head u h0 h2
theorem decFrom_canon:∀ (l:Bs) (acc n:Nat),acc≠0→Lib.decFrom acc l=some n→Lib.decDigits n=Lib.decDigits acc ++ l
 | [],acc,n,h0,h=>by simp [Lib.decFrom] at h;subst h;simp
 | b :: l,acc,n,h0,h=>by
  simp only [Lib.decFrom] at h;split at h
  ·rename_i d hd;obtain ⟨h1,h2,h3⟩:=Lib.digitVal_eq hd;have ih:=decFrom_canon l (acc * 10+d) n (by omega) h
   have e:Lib.decDigits (acc * 10+d)=Lib.decDigits acc ++ [b]:=by
    rw [Lib.decDigits,dif_neg (by omega),show (acc * 10+d) / 10=acc by omega,show (acc * 10+d) % 10=d by omega]
    congr 2
    apply UInt8.toNat_inj.1
    rw [u8 _ (by omega)];omega
   rw [ih,e];simp
  ·cases h
theorem num?_some {s:Bs} {n:Nat} (h:num? s=some n):s=Lib.decDigits n∧n<1000000000:=by
 unfold num? at h;split at h
 ·cases h
 ·rename_i hc;have h1:s≠[]:=fun e=>hc (.inl e)
  have h2:s.length≤9:=by
   rcases Nat.lt_or_ge 9 s.length with h'|h'
   ·exact absurd (.inr (.inl h')) hc
   ·exact h'
  obtain ⟨-,hd⟩:=Lib.decNat_some h;have hlt:=Lib.decFrom_lt _ _ _ hd;have hp:10 ^ s.length≤10 ^ 9:=Nat.pow_le_pow_right (by omega) h2;refine ⟨?_,by simp at hlt hp ⊢;omega⟩;cases s with
  | nil=>exact absurd rfl h1
  | cons b l =>
   simp only [Lib.decFrom] at hd;split at hd
   ·rename_i d hv;obtain ⟨k1,k2,k3⟩:=Lib.digitVal_eq hv
    have eb:b=UInt8.ofNat (48+d):=by
     apply UInt8.toNat_inj.1
     rw [u8 _ (by omega)];omega
    by_cases hd0:d=0
    ·-- a nought ahead: alone
     subst hd0
     have hl:l=[]:=by
      cases l with
      | nil=>rfl
      | cons x y=>exact absurd (.inr (.inr ⟨by simp,by simp [eb]⟩)) hc
     subst hl;simp [Lib.decFrom] at hd;subst hd;rw [Lib.decDigits_one (by omega),eb]
    ·have:=decFrom_canon l (0 * 10+d) n (by omega) hd;rw [this,show 0 * 10+d=d by omega,Lib.decDigits_one (by omega),eb]
     rfl
   ·cases hd
def letters:Bs:=[110,105,118,119,102,116,101]
def wOr:Bs:=[111,114]
def wAnd:Bs:=[97,110,100]
def item? (w:Bs):Option (Nat × Nat) :=
 match num? (Lib.cut w [46,46]).1 with
 | none=>none
 | some f=>match (if (Lib.cut w [46,46]).2.2 then num? (Lib.cut w [46,46]).2.1 else some f) with
  | none=>none
  | some t=>if f≤t then some (f,t) else none
def list? (s:Bs):Option (List (Nat × Nat)):=all? item? (splitG 44 s)
structure Cnd where
 letter:Nat
 mod:Int
 nt:Bool
 fr:List Int
 to:List Int
deriving DecidableEq
def mkC (l m:Nat) (nt:Bool) (L:List (Nat × Nat)):Cnd:=⟨l,m,nt,L.map fun e=>(e.1:Int),L.map fun e=>(e.2:Int)⟩
def tail? (l m:Nat):List Bs→Option Cnd
 | [q,t]=>if q=[61]∨q=[33,61] then
   match list? t with
   | none=>none
   | some L=>some (mkC l m (decide (q=[33,61])) L)
  else none
 | _=>none
def cond?:List Bs→Option Cnd
 | [l] :: r=>if l ∈ letters then
   match r with
   | p :: x :: r'=>if p=[37] then
     match num? x with
     | none=>none
     | some m=>if m=0 then none else tail? l.toNat m r'
    else tail? l.toNat 0 (p :: x :: r')
   | _=>none
  else none
 | _=>none
abbrev Rl:=List (List Cnd)
def row? (r:List Bs):Option (List Cnd):=all? cond? (splitG wAnd r)
def rule? (s:Bs):Option Rl:=all? row? (splitG wOr (splitG 32 s))
def parseR (s:Bs):Nat × Rl:=if 256<s.length then (11,[]) else match rule? s with
 | none=>(2,[])
 | some r=>(0,r)
def itemW (f t:Int):Bs:=if t=f then Lib.itoa f else Lib.itoa f ++ [46,46] ++ Lib.itoa t
def items:List Int→List Int→List Bs
 | f :: fr,t :: to=>itemW f t :: items fr to
 | _,_=>[]
def writeC (c:Cnd):Bs:=[UInt8.ofNat c.letter] ++ (if c.mod=0 then [] else [32,37,32] ++ Lib.itoa c.mod) ++ (if c.nt then [32,33,61] else [32,61]) ++ [32] ++ Lib.join (items c.fr c.to) [44]
def writeL (l:List Cnd):Bs:=Lib.join (l.map writeC) [32,97,110,100,32]
def writeR (r:Rl):Bs:=Lib.join (r.map writeL) [32,111,114,32]
def goodR (r:Rl):Bool:=decide (parseR (writeR r)=(0,r))
structure Valid (c:Cnd):Prop where
 letter:∃ l ∈ letters,c.letter=l.toNat
 mod:∃ m:Nat,c.mod=m∧m<1000000000
 list:∃ L:List (Nat × Nat),L≠[]∧c.fr=L.map (fun e=>(e.1:Int))∧c.to=L.map (fun e=>(e.2:Int))∧∀ e ∈ L,e.1≤e.2∧e.2<1000000000
end Go.Proofs.YtdgleeglndcjhaaGreatDoor
namespace Go.Proofs.YtdgleeglndcjhaaGreatDoor
theorem mem_joinG {α:Type} {c x:α}:∀ {ws:List (List α)},x ∈ joinG c ws→x=c∨∃ w ∈ ws,x ∈ w
 | [],h=>by cases h
 | [w],h=>.inr ⟨w,by simp,h⟩
 | w :: y :: r,h=>by
  rcases List.mem_append.1 h with h|h
  ·exact .inr ⟨w,by simp,h⟩
  ·rcases List.mem_cons.1 h with h|h
   ·exact .inl h
   ·rcases mem_joinG h with h|⟨w',hw,hx⟩
    ·exact .inl h
    ·exact .inr ⟨w',List.mem_cons_of_mem _ hw,hx⟩
theorem joinG_ne {α:Type} {c:α}:∀ {ws:List (List α)},ws≠[]→(∀ w ∈ ws,w≠[])→joinG c ws≠[]
 | [],h,_=>absurd rfl h
 | [w],_,h=>h w (by simp)
 | w :: y :: r,_,h=>by simp [joinG]
theorem itoa_nat (n:Nat):Lib.itoa (n:Int)=Lib.decDigits n:=by
 unfold Lib.itoa;rw [if_neg (by omega)];simp
theorem cut_dots (a b:Bs) (h:(46:UInt8) ∉ a):Lib.cut (a ++ 46 :: 46 :: b) [46,46]=(a,b,true):=by
 have hi:Lib.index (a ++ 46 :: 46 :: b) [46,46]=(a.length:Nat):=by
  refine Lib.index_first (by simp) (by simp [Lib.occAt,List.isPrefixOf]) (fun j hj=>?_);cases e:Lib.occAt (a ++ 46 :: 46 :: b) [46,46] j with
  | false=>rfl
  | true =>
   have:=Lib.occAt_head rfl e;rw [List.getElem?_append_left hj] at this;exact absurd (List.mem_of_getElem? this) h
 unfold Lib.cut;rw [hi,if_pos (by omega)];simp
theorem cut_none (a:Bs) (h:(46:UInt8) ∉ a):Lib.cut a [46,46]=(a,[],false):=by
 have hi:Lib.index a [46,46]=-1:=by
  refine Lib.index_none (fun j hj=>?_);cases e:Lib.occAt a [46,46] j with
  | false=>rfl
  | true=>exact absurd (List.mem_of_getElem? (Lib.occAt_head rfl e)) h
 unfold Lib.cut;rw [hi,if_neg (by omega)]
theorem decDigits_no (u:Nat) (b:UInt8) (hb:isDig b=false):b ∉ Lib.decDigits u:=fun h=>by
 rw [decDigits_dig u b h] at hb;cases hb
theorem item?_itemW (f t:Nat) (h:f≤t) (ht:t<1000000000):item? (itemW (f:Int) (t:Int))=some (f,t):=by
 unfold itemW item?;by_cases e:f=t
 ·subst e;rw [if_pos rfl,itoa_nat,cut_none _ (decDigits_no f 46 rfl)];simp [num?_decDigits f ht]
 ·rw [if_neg (by omega),itoa_nat,itoa_nat,List.append_assoc];show (match num? (Lib.cut (Lib.decDigits f ++ 46 :: 46 :: Lib.decDigits t) [46,46]).1 with|none=>none|some f_1=>match (if (Lib.cut (Lib.decDigits f ++ 46 :: 46 :: Lib.decDigits t) [46,46]).2.2 then num? (Lib.cut (Lib.decDigits f ++ 46 :: 46 :: Lib.decDigits t) [46,46]).2.1 else some f_1) with|none=>none|some t_1=>if f_1≤t_1 then some (f_1,t_1) else none)=_;rw [cut_dots _ _ (decDigits_no f 46 rfl)];simp [num?_decDigits f (by omega),num?_decDigits t ht,h]
theorem item?_some {w:Bs} {e:Nat × Nat} (h:item? w=some e):e.1≤e.2∧e.2<1000000000∧(itemW (e.1:Int) (e.2:Int)).length≤w.length:=by
 unfold item? at h;split at h
 ·cases h
 ·rename_i f hf;split at h
  ·cases h
  ·rename_i t ht;split at h
   ·rename_i hle;cases h
    obtain ⟨e1,l1⟩:=num?_some hf;refine ⟨hle,?_⟩;unfold Lib.cut at hf ht e1;by_cases hi:0≤Lib.index w [46,46]
    ·have hroom:=Lib.index_room w [46,46] hi;rw [if_pos hi] at ht e1;simp only [if_true] at ht;obtain ⟨e2,l2⟩:=num?_some ht;refine ⟨l2,?_⟩;simp only at e1 e2;have k1:=congrArg List.length e1;have k2:=congrArg List.length e2;simp only [List.length_take,List.length_drop,List.length_cons,List.length_nil] at k1 k2 hroom;unfold itemW;split
     ·rw [itoa_nat];simp only;omega
     ·rw [itoa_nat,itoa_nat];simp only [List.length_append,List.length_cons,List.length_nil];omega
    ·rw [if_neg hi] at ht e1;simp only [Bool.false_eq_true,if_false,Option.some.injEq] at ht;subst ht;refine ⟨l1,?_⟩;simp only at e1;unfold itemW;rw [if_pos rfl,itoa_nat,← e1];exact Nat.le_refl _
   ·cases h
theorem itemW_bytes (f t:Nat):∀ b ∈ itemW (f:Int) (t:Int),isDig b=true∨b=46:=by
 intro b hb;unfold itemW at hb;rw [itoa_nat,itoa_nat] at hb;split at hb
 ·exact .inl (decDigits_dig f b hb)
 ·simp only [List.mem_append,List.mem_cons,List.not_mem_nil,or_false] at hb;rcases hb with (hb|hb|hb)|hb
  ·exact .inl (decDigits_dig f b hb)
  ·exact .inr hb
  ·exact .inr hb
  ·exact .inl (decDigits_dig t b hb)
def listW (L:List (Nat × Nat)):Bs:=joinG 44 (L.map fun e=>itemW (e.1:Int) (e.2:Int))
theorem items_map:∀ L:List (Nat × Nat),items (L.map fun e=>(e.1:Int)) (L.map fun e=>(e.2:Int))=L.map fun e=>itemW (e.1:Int) (e.2:Int)
 | []=>rfl
 | e :: L=>by simp only [List.map_cons,items,items_map L]
theorem listW_eq (L:List (Nat × Nat)):Lib.join (items (L.map fun e=>(e.1:Int)) (L.map fun e=>(e.2:Int))) [44]=listW L:=by
 rw [join_eq_joinG,items_map];rfl
theorem list?_listW (L:List (Nat × Nat)) (h0:L≠[]) (h:∀ e ∈ L,e.1≤e.2∧e.2<1000000000):list? (listW L)=some L:=by
 unfold list? listW;rw [splitG_join]
 ·exact (F2.of_map_mem _ L fun e he=>item?_itemW e.1 e.2 (h e he).1 (h e he).2).all?
 ·simp [h0]
 ·intro w hw hc;obtain ⟨e,-,rfl⟩:=List.mem_map.1 hw;rcases itemW_bytes _ _ _ hc with h|h
  ·cases h
  ·cases h
theorem list?_some {s:Bs} {L:List (Nat × Nat)} (h:list? s=some L):L≠[]∧(∀ e ∈ L,e.1≤e.2∧e.2<1000000000)∧(listW L).length≤s.length:=by
 have hF:=all?_F2 h;refine ⟨fun e=>splitG_ne 44 s (hF.nil_iff.2 e),hF.right fun a b hab=>⟨(item?_some hab).1,(item?_some hab).2.1⟩,?_⟩;have:=hF.join_len [44] (fun a=>a) (fun e=>itemW (e.1:Int) (e.2:Int)) (fun a b hab=>(item?_some hab).2.2);rw [join_eq_joinG,join_eq_joinG,List.map_id',joinG_split] at this;exact this
theorem listW_bytes (L:List (Nat × Nat)):∀ b ∈ listW L,isDig b=true∨b=46∨b=44:=by
 intro b hb;rcases mem_joinG hb with h|⟨w,hw,hx⟩
 ·exact .inr (.inr h)
 ·obtain ⟨e,-,rfl⟩:=List.mem_map.1 hw;rcases itemW_bytes _ _ _ hx with h|h
  ·exact .inl h
  ·exact .inr (.inl h)
def wordsC (c:Cnd):List Bs:=[UInt8.ofNat c.letter] :: ((if c.mod=0 then [] else [[37],Lib.itoa c.mod]) ++ [if c.nt then [33,61] else [61],Lib.join (items c.fr c.to) [44]])
theorem writeC_eq (c:Cnd):writeC c=joinG 32 (wordsC c):=by
 unfold writeC wordsC;by_cases h:c.mod=0 <;> cases c.nt <;> simp [h,joinG]
theorem wordsC_ne (c:Cnd):wordsC c≠[]:=by simp [wordsC]
theorem tail?_some {l m:Nat} {r:List Bs} {c:Cnd} (h:tail? l m r=some c):∃ (nt:Bool) (t:Bs) (L:List (Nat × Nat)),r=[if nt then [33,61] else [61],t]∧list? t=some L∧c=mkC l m nt L:=by
 unfold tail? at h;split at h
 ·rename_i q t;split at h
  ·rename_i hq;split at h
   ·cases h
   ·rename_i L hL;cases h
    rcases hq with rfl|rfl
    ·exact ⟨false,t,L,by simp,hL,by simp⟩
    ·exact ⟨true,t,L,by simp,hL,by simp⟩
  ·cases h
 ·cases h
theorem tail?_is (l m:Nat) (nt:Bool) (t:Bs) (L:List (Nat × Nat)) (h:list? t=some L):tail? l m [if nt then [33,61] else [61],t]=some (mkC l m nt L):=by
 unfold tail?;cases nt <;> simp [h]
theorem letters_ofNat (l:UInt8):UInt8.ofNat l.toNat=l:=UInt8.ofNat_toNat
theorem wordsC_mk (l:UInt8) (m:Nat) (nt:Bool) (L:List (Nat × Nat)):wordsC (mkC l.toNat m nt L)=[l] :: ((if m=0 then [] else [[37],Lib.decDigits m]) ++ [if nt then [33,61] else [61],listW L]):=by
 unfold wordsC mkC;simp only [letters_ofNat,listW_eq];by_cases h:m=0
 ·subst h;simp
 ·have:¬ (m:Int)=0:=by omega
  simp [h,this,itoa_nat]
theorem valid_mk {l:UInt8} (hl:l ∈ letters) {m:Nat} (hm:m<1000000000) (nt:Bool) {L:List (Nat × Nat)} (h0:L≠[]) (h:∀ e ∈ L,e.1≤e.2∧e.2<1000000000):Valid (mkC l.toNat m nt L) :=
 ⟨⟨l,hl,rfl⟩,⟨m,rfl,hm⟩,⟨L,h0,rfl,rfl,h⟩⟩
theorem Valid.mk' {c:Cnd} (h:Valid c):∃ (l:UInt8) (m:Nat) (L:List (Nat × Nat)),l ∈ letters∧m<1000000000∧L≠[]∧(∀ e ∈ L,e.1≤e.2∧e.2<1000000000)∧c=mkC l.toNat m c.nt L:=by
 obtain ⟨⟨l,hl,h1⟩,⟨m,h2,hm⟩,⟨L,h0,h3,h4,h5⟩⟩:=h;refine ⟨l,m,L,hl,hm,h0,h5,?_⟩;obtain ⟨cl,cm,cn,cf,ct⟩:=c;simp only at h1 h2 h3 h4;subst h1;subst h2;subst h3;subst h4
 rfl
theorem cond?_words {c:Cnd} (h:Valid c):cond? (wordsC c)=some c:=by
 obtain ⟨l,m,L,hl,hm,h0,h5,e⟩:=h.mk';rw [e,wordsC_mk];have ht:=fun m=>tail?_is l.toNat m c.nt (listW L) L (list?_listW L h0 h5);by_cases h:m=0
 ·subst h;rw [if_pos rfl,List.nil_append];show (if l ∈ letters then (if (if c.nt=true then ([33,61]:Bs) else [61])=[37] then (match num? (listW L) with|none=>none|some m=>if m=0 then none else tail? l.toNat m []) else tail? l.toNat 0 [if c.nt=true then [33,61] else [61],listW L]) else none)=_;rw [if_pos hl,if_neg (by cases c.nt <;> simp)];exact ht 0
 ·rw [if_neg h];show (if l ∈ letters then (if ([37]:Bs)=[37] then (match num? (Lib.decDigits m) with|none=>none|some k=>if k=0 then none else tail? l.toNat k [if c.nt=true then [33,61] else [61],listW L]) else tail? l.toNat 0 [[37],Lib.decDigits m,if c.nt=true then [33,61] else [61],listW L]) else none)=_;rw [if_pos hl,if_pos rfl,num?_decDigits m hm];simp only [if_neg h];exact ht m
theorem joinG_last_le (ws:List Bs) (h:ws≠[]) {t t':Bs} (ht:t.length≤t'.length):(joinG 32 (ws ++ [t])).length≤(joinG 32 (ws ++ [t'])).length:=by
 rw [joinG_append 32 ws [t] h (by simp),joinG_append 32 ws [t'] h (by simp)];simp only [List.length_append,List.length_cons,joinG];omega
theorem cond?_some {w:List Bs} {c:Cnd} (h:cond? w=some c):Valid c∧(writeC c).length≤(joinG 32 w).length:=by
 rw [writeC_eq];unfold cond? at h;split at h
 ·rename_i l r;split at h
  ·rename_i hl;split at h
   ·rename_i p x r';split at h
    ·rename_i hp;subst hp;split at h
     ·cases h
     ·rename_i m hm;split at h
      ·cases h
      ·rename_i hm0;obtain ⟨nt,t,L,rfl,hL,rfl⟩:=tail?_some h;obtain ⟨k0,k1,k2⟩:=list?_some hL;obtain ⟨e1,e2⟩:=num?_some hm;refine ⟨valid_mk hl e2 nt k0 k1,?_⟩;rw [wordsC_mk,e1,if_neg hm0];exact joinG_last_le ([l] :: [37] :: Lib.decDigits m :: [if nt then [33,61] else [61]]) (by simp) k2
    ·rename_i hp;obtain ⟨nt,t,L,hr,hL,rfl⟩:=tail?_some h;obtain ⟨k0,k1,k2⟩:=list?_some hL;refine ⟨valid_mk hl (by omega) nt k0 k1,?_⟩;rw [wordsC_mk,hr,if_pos rfl];exact joinG_last_le ([l] :: [if nt then [33,61] else [61]]) (by simp) k2
   ·cases h
  ·cases h
 ·cases h
theorem wordsC_clean {c:Cnd} (h:Valid c):∀ w ∈ wordsC c,(32:UInt8) ∉ w∧w≠wOr∧w≠wAnd:=by
 obtain ⟨l,m,L,hl,hm,h0,h5,e⟩:=h.mk';rw [e,wordsC_mk]
 have key:∀ w:Bs,(∀ b ∈ w,isDig b=true∨b=46∨b=44)→(32:UInt8) ∉ w∧w≠wOr∧w≠wAnd:=fun w hw =>
  ⟨fun hm=>(by rcases hw _ hm with h|h|h <;> cases h),fun e=>(by rcases hw 111 (by rw [e];simp [wOr]) with h|h|h <;> cases h),fun e=>(by rcases hw 97 (by rw [e];simp [wAnd]) with h|h|h <;> cases h)⟩
 intro w hw;rcases List.mem_cons.1 hw with rfl|hw
 ·refine ⟨fun hm=>?_,by simp [wOr],by simp [wAnd]⟩;have:(32:UInt8)=l:=by simpa using hm
  subst this;simp [letters] at hl
 ·rcases List.mem_append.1 hw with hw|hw
  ·split at hw
   ·cases hw
   ·simp only [List.mem_cons,List.not_mem_nil,or_false] at hw;rcases hw with rfl|rfl
    ·simp [wOr,wAnd]
    ·exact key _ fun b hb=>.inl (decDigits_dig m b hb)
  ·simp only [List.mem_cons,List.not_mem_nil,or_false] at hw;rcases hw with rfl|rfl
   ·cases c.nt <;> simp [wOr,wAnd]
   ·exact key _ (listW_bytes L)
theorem join_words (x:Bs):∀ rows:List (List Bs),(∀ r ∈ rows,r≠[])→Lib.join (rows.map (joinG 32)) ([32] ++ x ++ [32])=joinG 32 (joinG x rows)
 | [],_=>rfl
 | [r],_=>by
  rw [List.map_singleton,Lib.join_one];rfl
 | r :: s :: t,h=>by
  have ih:=join_words x (s :: t) (fun r hr=>h r (List.mem_cons_of_mem _ hr));have hne:joinG x (s :: t)≠[]:=joinG_ne (by simp) (fun w hw=>h w (List.mem_cons_of_mem _ hw))
  have e1:Lib.join ((r :: s :: t).map (joinG 32)) ([32] ++ x ++ [32])=joinG 32 r ++ ([32] ++ x ++ [32]) ++ Lib.join ((s :: t).map (joinG 32)) ([32] ++ x ++ [32]):=by
   simp [Lib.join,List.intercalate]
  rw [e1,ih,joinG_cons x r (by simp),joinG_append 32 r (x :: joinG x (s :: t)) (h r (by simp)) (by simp),joinG_cons 32 x hne];simp
def wordsL (l:List Cnd):List Bs:=joinG wAnd (l.map wordsC)
theorem wordsL_ne {l:List Cnd} (h:l≠[]):wordsL l≠[]:=joinG_ne (by simpa using h) (fun w hw=>by obtain ⟨c,-,rfl⟩:=List.mem_map.1 hw;exact wordsC_ne c)
theorem writeL_eq (l:List Cnd):writeL l=joinG 32 (wordsL l):=by
 unfold writeL wordsL;rw [← join_words wAnd _ (fun w hw=>by obtain ⟨c,-,rfl⟩:=List.mem_map.1 hw;exact wordsC_ne c)];rw [List.map_map]
 congr 1
 exact List.map_congr_left fun c _=>writeC_eq c
theorem writeR_eq (r:Rl) (h:∀ l ∈ r,l≠[]):writeR r=joinG 32 (joinG wOr (r.map wordsL)):=by
 unfold writeR;rw [← join_words wOr _ (fun w hw=>by obtain ⟨l,hl,rfl⟩:=List.mem_map.1 hw;exact wordsL_ne (h l hl))];rw [List.map_map]
 congr 1
 exact List.map_congr_left fun l _=>writeL_eq l
structure ValidR (r:Rl):Prop where
 ne:r≠[]
 rows:∀ l ∈ r,l≠[]∧∀ c ∈ l,Valid c
theorem rule?_write {r:Rl} (h:ValidR r):rule? (writeR r)=some r:=by
 have clean:∀ l ∈ r,∀ w ∈ wordsL l,(32:UInt8) ∉ w∧w≠wOr:=by
  intro l hl w hw;rcases mem_joinG hw with rfl|⟨ws,hws,hw⟩
  ·simp [wAnd,wOr]
  ·obtain ⟨c,hc,rfl⟩:=List.mem_map.1 hws;have:=wordsC_clean ((h.rows l hl).2 c hc) w hw;exact ⟨this.1,this.2.1⟩
 rw [writeR_eq r (fun l hl=>(h.rows l hl).1)];unfold rule?;rw [splitG_join 32]
 ·rw [splitG_join wOr]
  ·refine (F2.of_map_mem _ r fun l hl=>?_).all?;unfold row? wordsL;rw [splitG_join wAnd]
   ·exact (F2.of_map_mem _ l fun c hc=>cond?_words ((h.rows l hl).2 c hc)).all?
   ·simpa using (h.rows l hl).1
   ·intro w hw hm;obtain ⟨c,hc,rfl⟩:=List.mem_map.1 hw;exact (wordsC_clean ((h.rows l hl).2 c hc) _ hm).2.2 rfl
  ·simpa using h.ne
  ·intro w hw hm;obtain ⟨l,hl,rfl⟩:=List.mem_map.1 hw;exact (clean l hl _ hm).2 rfl
 ·exact joinG_ne (by simpa using h.ne) (fun w hw=>by obtain ⟨l,hl,rfl⟩:=List.mem_map.1 hw;exact wordsL_ne (h.rows l hl).1)
 ·intro w hw;rcases mem_joinG hw with rfl|⟨ws,hws,hw⟩
  ·simp [wOr]
  ·obtain ⟨l,hl,rfl⟩:=List.mem_map.1 hws;exact (clean l hl w hw).1
theorem row?_some {a:List Bs} {l:List Cnd} (h:row? a=some l):l≠[]∧(∀ c ∈ l,Valid c)∧a≠[]∧(writeL l).length≤(joinG 32 a).length:=by
 have hF:=all?_F2 h;have hne:∀ w ∈ splitG wAnd a,w≠[]:=hF.left fun w c hc e=>by subst e;simp [cond?] at hc
 refine ⟨fun e=>splitG_ne wAnd a (hF.nil_iff.2 e),F2.right (p:=Valid) (fun w c hc=>(cond?_some hc).1) hF,?_,?_⟩
 ·rintro rfl;exact hne [] (by simp [splitG]) rfl
 ·have:=hF.join_len ([32] ++ wAnd ++ [32]) (joinG 32) writeC (fun w c hc=>(cond?_some hc).2);rw [join_words wAnd _ hne,joinG_split] at this;exact this
theorem rule?_some {s:Bs} {r:Rl} (h:rule? s=some r):ValidR r∧(writeR r).length≤s.length:=by
 have hF:=all?_F2 h;refine ⟨⟨fun e=>splitG_ne wOr _ (hF.nil_iff.2 e),hF.right fun a l hl=>⟨(row?_some hl).1,(row?_some hl).2.1⟩⟩,?_⟩;have hne:∀ a ∈ splitG wOr (splitG 32 s),a≠[]:=F2.left (p:=fun a=>a≠[]) (fun a l hl=>(row?_some hl).2.2.1) hF;have:=hF.join_len ([32] ++ wOr ++ [32]) (joinG 32) writeL (fun a l hl=>(row?_some hl).2.2.2);rw [join_words wOr _ hne,joinG_split,joinG_split] at this;exact this
theorem goodR_of {r:Rl} (h:ValidR r) (hl:(writeR r).length≤256):goodR r=true:=by
 unfold goodR parseR;rw [if_neg (by omega),rule?_write h];simp
theorem goodR_valid {r:Rl} (h:goodR r=true):ValidR r:=by
 have e:parseR (writeR r)=(0,r):=of_decide_eq_true h;unfold parseR at e;split at e
 ·cases e
 ·split at e
  ·cases e
  ·rename_i x hx;have:=(Prod.mk.inj e).2;subst this;exact (rule?_some hx).1
theorem parseR_ok {s:Bs} {r:Rl} (h:parseR s=(0,r)):s.length≤256∧rule? s=some r:=by
 unfold parseR at h;split at h
 ·cases h
 ·split at h
  ·cases h
  ·rename_i x hx;cases h
   exact ⟨by omega,hx⟩
theorem parse_back {s:Bs} {r:Rl} (h:parseR s=(0,r)):goodR r=true∧(writeR r).length≤s.length:=by
 obtain ⟨h1,h2⟩:=parseR_ok h;obtain ⟨h3,h4⟩:=rule?_some h2;exact ⟨goodR_of h3 (by omega),h4⟩
theorem occAt_one (s:Bs) (c:UInt8) (j:Nat):Lib.occAt s [c] j=decide (s[j]?=some c):=by
 unfold Lib.occAt
 induction s generalizing j with
 | nil=>simp
 | cons x l ih =>
  cases j with
  | zero =>
   by_cases h:x=c
   ·subst h;simp [List.isPrefixOf]
   ·simp [List.isPrefixOf,h,Ne.symm h]
  | succ j=>simpa using ih j
theorem splitK_eq (c:UInt8):∀ (n:Nat) (s:Bs),s.length≤n→Lib.splitK [c] 0 (Lib.count s [c]) s=splitG c s
 | n,s,hn=>by
  rcases Lib.index_spec s [c] with ⟨h1,h2⟩|⟨i,h1,h2,h3,h4⟩
  ·rw [Lib.count_miss h1]
   have:c ∉ s:=fun hm=>by
    obtain ⟨k,hk⟩:=List.getElem?_of_mem hm;have hlt:k<s.length:=(List.getElem?_eq_some_iff.1 hk).1;have:=h2 k (by omega);rw [occAt_one,hk] at this;simp at this
   rw [splitG_free c s this];rfl
  ·rw [occAt_one] at h3;have hi:s[i]?=some c:=of_decide_eq_true h3;have hlt:i<s.length:=(List.getElem?_eq_some_iff.1 hi).1
   have hs:s=s.take i ++ c :: s.drop (i+1):=by
    have:s[i]=c:=(List.getElem?_eq_some_iff.1 hi).2;rw [← this,List.getElem_cons_drop,List.take_append_drop]
   have hno:c ∉ s.take i:=fun hm=>by
    obtain ⟨k,hk⟩:=List.getElem?_of_mem hm
    have hk2:k<i:=by
     have:=(List.getElem?_eq_some_iff.1 hk).1;rw [List.length_take] at this;omega
    rw [List.getElem?_take,if_pos hk2] at hk;have:=h4 k hk2;rw [occAt_one,hk] at this;simp at this
   match n,hn with
   | 0,hn=>omega
   | n+1,hn =>
    have ih:=splitK_eq c n (s.drop (i+1)) (by rw [List.length_drop];omega);rw [Lib.count_hit (by simp) h1,Nat.add_comm];have hne:¬ (Lib.index s [c] == -1)=true:=fun e=>by have:=beq_iff_eq.1 e;omega
    show (if (Lib.index s [c] == -1)=true then [s] else s.take ((Lib.index s [c]).toNat+0) :: Lib.splitK [c] 0 (Lib.count (s.drop (i+[c].length)) [c]) (s.drop ((Lib.index s [c]).toNat+[c].length)))=splitG c s;rw [if_neg hne,show (Lib.index s [c]).toNat=i by omega];simp only [Nat.add_zero,List.length_cons,List.length_nil,Nat.zero_add];rw [ih]
    conv=>rhs;rw [hs,splitG_app,splitG_free c _ hno]
    rfl
theorem splitB_eq (c:UInt8) (s:ByteArray):(Lib.splitB ⟨#[c]⟩ 0 (Lib.countB s ⟨#[c]⟩) s).map (·.data.toList)=splitG c s.data.toList:=by
 rw [Lib.splitB_data];exact splitK_eq c _ _ (Nat.le_refl _)
def condHolds (p q mod:Nat) (nt:Bool) (L:List (Nat × Nat)):Bool :=
 ((decide ((if 0<mod then p % (q * mod) else p) % q=0) && L.any fun e=>decide (e.1 * q≤(if 0<mod then p % (q * mod) else p)) && decide ((if 0<mod then p % (q * mod) else p)≤e.2 * q)) != nt)
def condV (val:Nat→Nat × Nat) (c:Cnd):Bool :=
 condHolds (val c.letter).1 (val c.letter).2 c.mod.toNat c.nt (List.zip (c.fr.map Int.toNat) (c.to.map Int.toNat))
def anyV (val:Nat→Nat × Nat) (r:Rl):Bool:=r.any fun l=>l.all (condV val)
def holdsV (val:Nat→Nat × Nat) (r:Rl):Bool:=goodR r && anyV val r
theorem condV_mk (val:Nat→Nat × Nat) (l m:Nat) (nt:Bool) (L:List (Nat × Nat)):condV val (mkC l m nt L)=condHolds (val l).1 (val l).2 m nt L:=by
 unfold condV mkC;simp only [List.map_map,Int.toNat_natCast]
 congr 1
 induction L with
 | nil=>rfl
 | cons e L ih=>rw [List.map_cons,List.map_cons,List.zip_cons_cons,ih];simp
def exOne:Bs:=[105,32,61,32,49,32,97,110,100,32,118,32,61,32,48]
def exRule:Rl:=[[mkC 105 0 false [(1,1)],mkC 118 0 false [(0,0)]]]
theorem parse_exOne:parseR exOne=(0,exRule):=by decide +kernel
theorem good_exOne:goodR exRule=true:=(parse_back parse_exOne).1
theorem holds_exOne (val:Nat→Nat × Nat) {i v:Nat} (hi:val 105=(i,1)) (hv:val 118=(v,1)):holdsV val exRule=(decide (i=1) && decide (v=0)):=by
 have hg:=good_exOne;unfold exRule at hg ⊢;simp only [holdsV,hg,anyV,List.any_cons,List.any_nil,List.all_cons,List.all_nil,condV_mk,hi,hv,condHolds,Bool.true_and,Bool.and_true,Bool.or_false,Nat.one_mul,Nat.mul_one,Nat.mod_one,decide_true,if_neg (Nat.lt_irrefl 0)];rw [Bool.eq_iff_iff];simp;omega
end Go.Proofs.YtdgleeglndcjhaaGreatDoor
