import Derived.Test.YtdgleeglndcjhaaGreatDoorX01
set_option linter.unusedVariables false
set_option maxRecDepth 100000
namespace Go.Proofs.YtdgleeglndcjhaaGreatDoor
def val:List Nat→Nat
 | []=>0
 | x :: l=>x+4294967296 * val l
def Wd (l:List Nat):Prop:=∀ x ∈ l,x<4294967296
def wordsOf (n:Nat):List Nat:=if h:n=0 then [] else n % 4294967296 :: wordsOf (n / 4294967296)
termination_by n
decreasing_by omega
theorem wordsOf_zero:wordsOf 0=[]:=by rw [wordsOf];simp
theorem wordsOf_pos {n:Nat} (h:n≠0):wordsOf n=n % 4294967296 :: wordsOf (n / 4294967296):=by rw [wordsOf];simp [h]
theorem val_wordsOf (n:Nat):val (wordsOf n)=n:=by
 induction n using Nat.strongRecOn with
 | ind n ih =>
  by_cases h:n=0
  ·subst h;rw [wordsOf_zero];rfl
  ·rw [wordsOf_pos h,val,ih _ (by omega)];omega
theorem wd_wordsOf (n:Nat):Wd (wordsOf n):=by
 induction n using Nat.strongRecOn with
 | ind n ih =>
  by_cases h:n=0
  ·subst h;rw [wordsOf_zero];intro x hx;simp at hx
  ·rw [wordsOf_pos h];intro x hx;rcases List.mem_cons.1 hx with rfl|hx
   ·omega
   ·exact ih _ (by omega) x hx
theorem wordsOf_eq_nil {n:Nat}:wordsOf n=[]↔n=0:=by
 constructor
 ·intro h;have:=val_wordsOf n;rw [h] at this;exact this.symm
 ·rintro rfl;exact wordsOf_zero
def trimL:List Nat→List Nat
 | []=>[]
 | x :: l=>if trimL l=[] then if x=0 then [] else [x] else x :: trimL l
theorem trimL_snoc0 (l:List Nat):trimL (l ++ [0])=trimL l:=by
 induction l with
 | nil=>simp [trimL]
 | cons x l ih=>simp [trimL,ih]
theorem trimL_snoc (l:List Nat) (x:Nat) (h:x≠0):trimL (l ++ [x])=l ++ [x]:=by
 induction l with
 | nil=>simp [trimL,h]
 | cons y l ih=>simp [trimL,ih]
theorem Wd.cons {x:Nat} {l:List Nat} (h:Wd (x :: l)):x<4294967296∧Wd l:=⟨h x (by simp),fun y hy=>h y (by simp [hy])⟩
theorem Wd.take {l:List Nat} (h:Wd l) (k:Nat):Wd (l.take k):=fun x hx=>h x (List.mem_of_mem_take hx)
theorem Wd.drop {l:List Nat} (h:Wd l) (k:Nat):Wd (l.drop k):=fun x hx=>h x (List.mem_of_mem_drop hx)
theorem Wd.append {l m:List Nat} (h:Wd l) (k:Wd m):Wd (l ++ m):=fun x hx=>(List.mem_append.1 hx).elim (h x) (k x)
theorem Wd.one {x:Nat} (h:x<4294967296):Wd [x]:=fun y hy=>by simp at hy;omega
theorem Wd.nil:Wd []:=fun y hy=>by simp at hy
theorem Wd.rep (n:Nat):Wd (List.replicate n 0):=fun y hy=>by have:=(List.mem_replicate.1 hy).2;omega
theorem Wd.getD {l:List Nat} (h:Wd l) (k:Nat):l.getD k 0<4294967296:=by
 by_cases hk:k<l.length
 ·rw [List.getD_eq_getElem?_getD,List.getElem?_eq_getElem hk];exact h _ (List.getElem_mem hk)
 ·rw [List.getD_eq_getElem?_getD,List.getElem?_eq_none (by omega)];simp
theorem trimL_val (l:List Nat) (h:Wd l):trimL l=wordsOf (val l):=by
 induction l with
 | nil=>rw [trimL,val,wordsOf_zero]
 | cons x l ih =>
  have ⟨hx,hl⟩:=h.cons;rw [trimL,val,ih hl];by_cases hv:val l=0
  ·rw [hv,wordsOf_zero,if_pos rfl];by_cases h0:x=0
   ·subst h0;simp [wordsOf_zero]
   ·rw [if_neg h0,wordsOf_pos (by omega),show (x+4294967296 * 0) / 4294967296=0 by omega,wordsOf_zero,show (x+4294967296 * 0) % 4294967296=x by omega]
  ·rw [if_neg (by rw [wordsOf_eq_nil];exact hv),wordsOf_pos (n:=x+4294967296 * val l) (by omega),show (x+4294967296 * val l) / 4294967296=val l by omega,show (x+4294967296 * val l) % 4294967296=x by omega]
theorem val_append (l m:List Nat):val (l ++ m)=val l+4294967296 ^ l.length * val m:=by
 induction l with
 | nil=>simp [val]
 | cons x l ih=>simp only [List.cons_append,val,ih,List.length_cons,Nat.pow_succ];rw [Nat.mul_add,Nat.mul_comm (4294967296 ^ l.length) 4294967296,Nat.mul_assoc];omega
theorem val_snoc (l:List Nat) (x:Nat):val (l ++ [x])=val l+4294967296 ^ l.length * x:=by rw [val_append];simp [val]
theorem val_rep (n:Nat):val (List.replicate n 0)=0:=by
 induction n with
 | zero=>rfl
 | succ n ih=>rw [List.replicate_succ,val,ih]
theorem val_lt (l:List Nat) (h:Wd l):val l<4294967296 ^ l.length:=by
 induction l with
 | nil=>simp [val]
 | cons x l ih =>
  have ⟨hx,hl⟩:=h.cons;have:=ih hl;simp only [val,List.length_cons,Nat.pow_succ];omega
theorem take_succ_getD (l:List Nat) (i:Nat) (h:i<l.length):l.take (i+1)=l.take i ++ [l.getD i 0]:=by
 rw [List.take_succ_eq_append_getElem h];simp [List.getD_eq_getElem?_getD,List.getElem?_eq_getElem h]
theorem val_take_succ (l:List Nat) (i:Nat):val (l.take (i+1))=val (l.take i)+4294967296 ^ i * l.getD i 0:=by
 by_cases h:i<l.length
 ·rw [take_succ_getD l i h,val_snoc,List.length_take,Nat.min_eq_left (by omega)]
 ·rw [List.take_of_length_le (by omega),List.take_of_length_le (by omega),List.getD_eq_getElem?_getD,List.getElem?_eq_none (by omega)];simp
theorem length_wordsOf (n k:Nat):(wordsOf n).length≤k↔n<4294967296 ^ k:=by
 induction k generalizing n with
 | zero =>
  rw [Nat.pow_zero,Nat.le_zero,List.length_eq_zero_iff,wordsOf_eq_nil];omega
 | succ k ih =>
  by_cases h:n=0
  ·subst h;rw [wordsOf_zero];simp;exact Nat.pow_pos (by omega)
  ·rw [wordsOf_pos h,List.length_cons,Nat.add_le_add_iff_right,ih,Nat.pow_succ,Nat.div_lt_iff_lt_mul (by omega)]
theorem length_lt (n k:Nat):k<(wordsOf n).length↔4294967296 ^ k≤n:=by
 have:=length_wordsOf n k;omega
theorem getD_wordsOf (n i:Nat):(wordsOf n).getD i 0=n / 4294967296 ^ i % 4294967296:=by
 induction i generalizing n with
 | zero =>
  by_cases h:n=0
  ·subst h;rw [wordsOf_zero];rfl
  ·rw [wordsOf_pos h];simp
 | succ i ih =>
  by_cases h:n=0
  ·subst h;rw [wordsOf_zero];simp
  ·rw [wordsOf_pos h,List.getD_cons_succ,ih,Nat.pow_succ',Nat.div_div_eq_div_mul]
theorem wordsOf_of_last {l:List Nat} (h:Wd l) (hl:l=[]∨l.getD (l.length - 1) 0≠0):wordsOf (val l)=l:=by
 rcases hl with rfl|hl
 ·simp [val,wordsOf_zero]
 ·have hp:0<l.length:=by
   rcases l with _|⟨x,l⟩
   ·simp at hl
   ·simp
  rw [← trimL_val l h];have:=take_succ_getD l (l.length - 1) (by omega);rw [Nat.sub_add_cancel hp,List.take_length] at this;rw [this,trimL_snoc _ _ hl,← this]
theorem wordsOf_last {n:Nat} (h:n≠0):(wordsOf n).getD ((wordsOf n).length - 1) 0≠0:=by
 have hp:0<(wordsOf n).length:=by
  rcases hw:wordsOf n with _|⟨x,l⟩
  ·exact absurd (wordsOf_eq_nil.1 hw) h
  ·simp
 have h1:=(length_lt n ((wordsOf n).length - 1)).1 (by omega);have h2:=(length_wordsOf n (wordsOf n).length).1 (Nat.le_refl _);rw [getD_wordsOf]
 have h3:n / 4294967296 ^ ((wordsOf n).length - 1)<4294967296:=by
  rw [Nat.div_lt_iff_lt_mul (Nat.pow_pos (by omega)),← Nat.pow_succ',show ((wordsOf n).length - 1).succ=(wordsOf n).length by omega];exact h2
 have h4:0<n / 4294967296 ^ ((wordsOf n).length - 1):=Nat.div_pos h1 (Nat.pow_pos (by omega));rw [Nat.mod_eq_of_lt h3];omega
theorem add_round {done a b:List Nat} {c k:Nat} (hk:done.length=k) (h:val done+c * 4294967296 ^ k=val (a.take k)+val (b.take k)) :
  val (done ++ [(c+(a.getD k 0+b.getD k 0)) % 4294967296])+(c+(a.getD k 0+b.getD k 0)) / 4294967296 * 4294967296 ^ (k+1)=val (a.take (k+1))+val (b.take (k+1)):=by
 rw [val_snoc,hk,val_take_succ,val_take_succ,Nat.pow_succ];generalize a.getD k 0=x;generalize b.getD k 0=y
 have h1:4294967296 ^ k * ((c+(x+y)) % 4294967296)+(c+(x+y)) / 4294967296 * (4294967296 ^ k * 4294967296)=4294967296 ^ k * (c+(x+y)):=by
  rw [Nat.mul_comm ((c+(x+y)) / 4294967296),Nat.mul_assoc,← Nat.mul_add,Nat.add_comm ((c+(x+y)) % 4294967296),Nat.div_add_mod]
 rw [Nat.mul_add,Nat.mul_add] at h1;rw [Nat.mul_comm c] at h;omega
theorem add_end {done a b:List Nat} {c n:Nat} (hk:done.length=n+1) (hd:Wd done) (ha:Wd a) (hb:Wd b) (hna:a.length≤n) (hnb:b.length≤n)
  (h:val done+c * 4294967296 ^ (n+1)=val (a.take (n+1))+val (b.take (n+1))):val done=val a+val b:=by
 rw [List.take_of_length_le (by omega),List.take_of_length_le (by omega)] at h;have h1:=Nat.lt_of_lt_of_le (val_lt a ha) (Nat.pow_le_pow_right (show 0<4294967296 by omega) hna);have h2:=Nat.lt_of_lt_of_le (val_lt b hb) (Nat.pow_le_pow_right (show 0<4294967296 by omega) hnb);rw [Nat.pow_succ] at h
 have h3:c=0:=by
  rcases Nat.eq_zero_or_pos c with h3|h3
  ·exact h3
  ·have:4294967296 ^ n * 4294967296≤c * (4294967296 ^ n * 4294967296):=Nat.le_mul_of_pos_left _ h3;omega
 subst h3;omega
theorem sub_round {done a b:List Nat} {q k x r:Nat} (hk:done.length=k) (h:val done+val (b.take k)=val (a.take k)+q * 4294967296 ^ k)
  (hx:x+b.getD k 0+q=a.getD k 0+r * 4294967296) :
  val (done ++ [x])+val (b.take (k+1))=val (a.take (k+1))+r * 4294967296 ^ (k+1):=by
 rw [val_snoc,hk,val_take_succ,val_take_succ,Nat.pow_succ];generalize a.getD k 0=s at *
 generalize b.getD k 0=t at *
 have h1:4294967296 ^ k * (x+t+q)=4294967296 ^ k * (s+r * 4294967296):=by rw [hx]
 rw [Nat.mul_add,Nat.mul_add,Nat.mul_add] at h1;rw [show r * (4294967296 ^ k * 4294967296)=4294967296 ^ k * (r * 4294967296) by rw [Nat.mul_comm (4294967296 ^ k) 4294967296,← Nat.mul_assoc,Nat.mul_comm]];rw [Nat.mul_comm q] at h;omega
theorem val_take_drop (l:List Nat) (n:Nat) (h:n≤l.length):val l=val (l.take n)+4294967296 ^ n * val (l.drop n):=by
 have:=val_append (l.take n) (l.drop n);rw [List.take_append_drop,List.length_take,Nat.min_eq_left h] at this;exact this
theorem sub_end {done a b:List Nat} {q n:Nat} (hk:done.length=n) (hd:Wd done) (ha:Wd a) (hn:a.length=n) (hle:val b≤val a)
  (h:val done+val (b.take n)=val (a.take n)+q * 4294967296 ^ n):val done=val a - val b:=by
 rw [List.take_of_length_le (l:=a) (by omega)] at h;have h1:=val_lt a ha;have h2:=val_lt done hd;rw [hn] at h1;rw [hk] at h2
 have hb:val (b.take n)=val b:=by
  rcases Nat.lt_or_ge b.length n with h3|h3
  ·rw [List.take_of_length_le (l:=b) (by omega)]
  ·have h4:=val_take_drop b n h3;rcases Nat.eq_zero_or_pos (val (b.drop n)) with h5|h5
   ·rw [h5] at h4;omega
   ·have:4294967296 ^ n≤4294967296 ^ n * val (b.drop n):=Nat.le_mul_of_pos_right _ h5;omega
 rw [hb] at h
 have h3:q=0:=by
  rcases Nat.eq_zero_or_pos q with h3|h3
  ·exact h3
  ·have:4294967296 ^ n≤q * 4294967296 ^ n:=Nat.le_mul_of_pos_left _ h3;omega
 subst h3;omega
theorem getD_val (l:List Nat) (h:Wd l) (i:Nat):l.getD i 0=val l / 4294967296 ^ i % 4294967296:=by
 induction l generalizing i with
 | nil=>simp [val]
 | cons x l ih =>
  have ⟨hx,hl⟩:=h.cons;cases i with
  | zero=>simp [val];omega
  | succ i =>
   rw [List.getD_cons_succ,ih hl,val,Nat.pow_succ',← Nat.div_div_eq_div_mul,show (x+4294967296 * val l) / 4294967296=val l by omega]
theorem drop_cons_getD (l:List Nat) (i:Nat) (h:i<l.length):l.drop i=l.getD i 0 :: l.drop (i+1):=by
 rw [List.drop_eq_getElem_cons h];simp [List.getD_eq_getElem?_getD,List.getElem?_eq_getElem h]
theorem small_round {suf l:List Nat} {rest k d:Nat} (hd:0<d) (hdB:d<4294967296) (hr:rest<d) (hk:k<l.length) (hx:l.getD k 0<4294967296)
  (h1:val suf=val (l.drop (k+1)) / d) (h2:rest=val (l.drop (k+1)) % d) :
  (rest * 4294967296+l.getD k 0) / d<4294967296∧val ((rest * 4294967296+l.getD k 0) / d :: suf)=val (l.drop k) / d∧(rest * 4294967296+l.getD k 0) % d=val (l.drop k) % d:=by
 rw [drop_cons_getD l k hk];simp only [val];generalize l.getD k 0=x at *
 generalize val (l.drop (k+1))=V at *
 have e:x+4294967296 * V=(rest * 4294967296+x)+d * (4294967296 * (V / d)):=by
  have:=Nat.div_add_mod V d;rw [← h2] at this;have e2:4294967296 * V=4294967296 * (d * (V / d)+rest):=by rw [this]
  rw [e2,Nat.mul_add,Nat.mul_left_comm];omega
 refine ⟨?_,?_,?_⟩
 ·rw [Nat.div_lt_iff_lt_mul hd];have:(rest+1) * 4294967296≤d * 4294967296:=Nat.mul_le_mul_right _ hr;omega
 ·rw [e,Nat.add_mul_div_left _ _ hd,h1]
 ·rw [e,Nat.add_mul_mod_self_left]
theorem shift_round {done l:List Nat} {c k p:Nat} (hk:done.length=k) (hc:c<p) (hx:l.getD k 0<4294967296)
  (h:val done+c * 4294967296 ^ k=val (l.take k) * p) :
  val (done ++ [(c+l.getD k 0 * p) % 4294967296])+(c+l.getD k 0 * p) / 4294967296 * 4294967296 ^ (k+1)=val (l.take (k+1)) * p∧(c+l.getD k 0 * p) / 4294967296<p:=by
 rw [val_snoc,hk,val_take_succ,Nat.pow_succ];generalize l.getD k 0=x at *
 constructor
 ·have h1:4294967296 ^ k * ((c+x * p) % 4294967296)+(c+x * p) / 4294967296 * (4294967296 ^ k * 4294967296)=4294967296 ^ k * (c+x * p):=by
   rw [Nat.mul_comm ((c+x * p) / 4294967296),Nat.mul_assoc,← Nat.mul_add,Nat.add_comm ((c+x * p) % 4294967296),Nat.div_add_mod]
  rw [Nat.mul_add] at h1;rw [Nat.mul_comm c] at h;rw [Nat.add_mul,Nat.mul_assoc];omega
 ·rw [Nat.div_lt_iff_lt_mul (by omega)];have:(x+1) * p≤4294967296 * p:=Nat.mul_le_mul_right p (by omega);rw [Nat.add_mul,Nat.one_mul] at this;rw [Nat.mul_comm p];omega
theorem back_word (V i m:Nat) (hm:m≤32) :
  ((V / 4294967296 ^ (i+1) % 4294967296) * 4294967296+V / 4294967296 ^ i % 4294967296) / 2 ^ m % 4294967296=V / 2 ^ m / 4294967296 ^ i % 4294967296:=by
 rw [Nat.div_div_eq_div_mul,Nat.mul_comm (2 ^ m),← Nat.div_div_eq_div_mul,Nat.pow_succ,← Nat.div_div_eq_div_mul];generalize V / 4294967296 ^ i=W;have hp:0<2 ^ m:=Nat.pow_pos (by omega);obtain ⟨r,hr⟩:∃ r,4294967296=2 ^ m * r:=⟨2 ^ (32 - m),by rw [← Nat.pow_add,Nat.add_sub_cancel' hm]⟩
 have e:W=2 ^ m * (r * 4294967296 * (W / 4294967296 / 4294967296))+(W / 4294967296 % 4294967296 * 4294967296+W % 4294967296):=by
  rw [← Nat.mul_assoc,← Nat.mul_assoc,← hr];omega
 have h2:W / 2 ^ m=r * 4294967296 * (W / 4294967296 / 4294967296)+(W / 4294967296 % 4294967296 * 4294967296+W % 4294967296) / 2 ^ m:=by
  conv=>lhs;rw [e]
  rw [Nat.mul_add_div hp]
 rw [h2,Nat.mul_right_comm,Nat.mul_add_mod_self_right]
theorem back_round {done:List Nat} {k Q:Nat} (hk:done.length=k) (h:val done=Q % 4294967296 ^ k):val (done ++ [Q / 4294967296 ^ k % 4294967296])=Q % 4294967296 ^ (k+1):=by
 rw [val_snoc,hk,h,Nat.pow_succ,Nat.mod_mul]
theorem mul_round {P D b:List Nat} {carry i j x:Nat} (hP:P.length=i+j) (hc:carry<4294967296) (hx:x<4294967296) (hb:b.getD j 0<4294967296) (hD:D.getD (i+j) 0<4294967296)
  (h:val P+carry * 4294967296 ^ (i+j)=val (D.take (i+j))+x * 4294967296 ^ i * val (b.take j)) :
  val (P ++ [(carry+(x * b.getD j 0+D.getD (i+j) 0)) % 4294967296])+(carry+(x * b.getD j 0+D.getD (i+j) 0)) / 4294967296 * 4294967296 ^ (i+(j+1)) =
   val (D.take (i+(j+1)))+x * 4294967296 ^ i * val (b.take (j+1)):=by
 rw [val_snoc,hP,show i+(j+1)=i+j+1 by omega,val_take_succ,val_take_succ,Nat.pow_succ];generalize b.getD j 0=y at *
 generalize D.getD (i+j) 0=o at *
 have h1:4294967296 ^ (i+j) * ((carry+(x * y+o)) % 4294967296)+(carry+(x * y+o)) / 4294967296 * (4294967296 ^ (i+j) * 4294967296)=4294967296 ^ (i+j) * (carry+(x * y+o)):=by
  rw [Nat.mul_comm ((carry+(x * y+o)) / 4294967296),Nat.mul_assoc,← Nat.mul_add,Nat.add_comm ((carry+(x * y+o)) % 4294967296),Nat.div_add_mod]
 rw [Nat.mul_add,Nat.mul_add] at h1;rw [Nat.mul_comm carry] at h
 have h2:x * 4294967296 ^ i * (val (b.take j)+4294967296 ^ j * y)=x * 4294967296 ^ i * val (b.take j)+4294967296 ^ (i+j) * (x * y):=by
  rw [Nat.mul_add,Nat.pow_add]
  congr 1
  rw [Nat.mul_assoc x,← Nat.mul_assoc (4294967296 ^ i),Nat.mul_left_comm x]
 rw [h2];omega
theorem mul_small {x y o c:Nat} (hx:x<4294967296) (hy:y<4294967296) (ho:o<4294967296) (hc:c<4294967296):c+(x * y+o)<18446744073709551616∧(c+(x * y+o)) / 4294967296<4294967296:=by
 have h:x * y≤4294967295 * 4294967295:=Nat.mul_le_mul (by omega) (by omega);omega
theorem less_round {done u v:List Nat} {q r c k x r':Nat} (hk:done.length=k) (h:val done+q * val (v.take k)=val (u.take k)+(r+c) * 4294967296 ^ k)
  (hx:x+(c+q * v.getD k 0) % 4294967296+r=u.getD k 0+r' * 4294967296) :
  val (done ++ [x])+q * val (v.take (k+1))=val (u.take (k+1))+(r'+(c+q * v.getD k 0) / 4294967296) * 4294967296 ^ (k+1):=by
 rw [val_snoc,hk,val_take_succ,val_take_succ,Nat.pow_succ,Nat.mul_add];generalize v.getD k 0=y at *
 generalize u.getD k 0=z at *
 generalize hP:4294967296 ^ k=P at *
 have e1:x+q * y+(r+c)=z+(r'+(c+q * y) / 4294967296) * 4294967296:=by
  generalize q * y=p at *
  omega
 have e2:P * (x+q * y+(r+c))=P * (z+(r'+(c+q * y) / 4294967296) * 4294967296):=by rw [e1]
 rw [Nat.mul_add,Nat.mul_add,Nat.mul_add P z] at e2;rw [Nat.mul_comm (r+c)] at h;rw [Nat.mul_left_comm q P y,Nat.mul_comm (r'+(c+q * y) / 4294967296) (P * 4294967296),Nat.mul_assoc P 4294967296,Nat.mul_comm 4294967296];omega
theorem less_end {done u:List Nat} {q r c n x r' V:Nat} (hk:done.length=n) (hu:u.length=n+1) (hd:Wd done) (hx8:x<4294967296) (hr':r'≤1)
  (h:val done+q * V=val (u.take n)+(r+c) * 4294967296 ^ n) (hx:x+c+r=u.getD n 0+r' * 4294967296) :
  val (done ++ [x])+q * V=val u+r' * 4294967296 ^ (n+1)∧((r' == 1)=decide (val u<q * V)):=by
 have h0:val u=val (u.take n)+4294967296 ^ n * u.getD n 0:=by
  have:=val_take_succ u n
  rwa [List.take_of_length_le (by omega)] at this
 have h1:val (done ++ [x])+q * V=val u+r' * 4294967296 ^ (n+1):=by
  rw [val_snoc,hk,h0,Nat.pow_succ];generalize u.getD n 0=z at *
  generalize hP:4294967296 ^ n=P at *
  have e2:P * (x+c+r)=P * (z+r' * 4294967296):=by rw [hx]
  rw [Nat.mul_add,Nat.mul_add,Nat.mul_add P z] at e2;rw [Nat.add_mul,Nat.mul_comm r,Nat.mul_comm c] at h;rw [Nat.mul_comm r' (P * 4294967296),Nat.mul_assoc P 4294967296,Nat.mul_comm 4294967296];omega
 refine ⟨h1,?_⟩;have hw:Wd (done ++ [x]):=hd.append (Wd.one hx8);have h2:=val_lt _ hw;rw [List.length_append,hk,List.length_singleton] at h2;rcases Nat.eq_zero_or_pos r' with h3|h3
 ·subst h3;simp;omega
 ·obtain rfl:r'=1:=by omega
  simp;omega
theorem guess_low {W V top next u0 P high q rest:Nat} (hP:0<P) (hV:top * (4294967296 * P)+next * P≤V) (hW:W<high * (4294967296 * P)+(u0+1) * P)
  (hq:high=q * top+rest) (ht:rest * 4294967296+u0<q * next):W / V<q:=by
 have hVp:0<V∨V=0:=by omega
 rcases hVp with hVp|hVp
 ·rw [Nat.div_lt_iff_lt_mul hVp];have h1:q * (top * (4294967296 * P)+next * P)≤q * V:=Nat.mul_le_mul_left q hV;have h2:(rest * 4294967296+u0+1) * P≤(q * next) * P:=Nat.mul_le_mul_right P ht
  have h3:high * (4294967296 * P)+(u0+1) * P=q * top * (4294967296 * P)+(rest * 4294967296+u0+1) * P:=by
   rw [hq,Nat.add_mul,Nat.add_assoc (rest * 4294967296),Nat.add_mul (rest * 4294967296),Nat.mul_assoc rest,Nat.add_assoc]
  rw [Nat.mul_add,← Nat.mul_assoc q top,← Nat.mul_assoc q next] at h1;omega
 ·subst hVp;rw [Nat.div_zero];rcases Nat.eq_zero_or_pos q with h|h
  ·subst h;simp at ht
  ·exact h
theorem guess_first {W V top P high:Nat} (hP:0<P) (ht:0<top) (hV:top * (4294967296 * P)≤V) (hW:W<(high+1) * (4294967296 * P)):W / V≤high / top:=by
 have hVp:0<V:=Nat.lt_of_lt_of_le (Nat.mul_pos ht (Nat.mul_pos (by omega) hP)) hV;rw [← Nat.lt_succ_iff,Nat.div_lt_iff_lt_mul hVp]
 have h1:high+1≤(high / top).succ * top:=by
  have:=Nat.div_add_mod high top;have h2:=Nat.mod_lt high ht;rw [Nat.succ_mul,Nat.mul_comm];omega
 calc W<(high+1) * (4294967296 * P):=hW
  _≤(high / top).succ * top * (4294967296 * P):=Nat.mul_le_mul_right _ h1
  _=(high / top).succ * (top * (4294967296 * P)):=Nat.mul_assoc _ _ _
  _≤(high / top).succ * V:=Nat.mul_le_mul_left _ hV
theorem guess_high {W V top next u0 P high q rest V':Nat} (hP:0<P) (hV:V=top * (4294967296 * P)+next * P+V') (hV':V'<P) (ht:0<top)
  (hW:high * (4294967296 * P)+u0 * P≤W) (hq:high=q * top+rest) (hq8:q<4294967296) (hs:q * next≤rest * 4294967296+u0):q * V≤W+V:=by
 have h1:q * V'≤4294967296 * P:=Nat.mul_le_mul (by omega) (by omega);have h2:(q * next) * P≤(rest * 4294967296+u0) * P:=Nat.mul_le_mul_right P hs;have h3:4294967296 * P≤top * (4294967296 * P):=Nat.le_mul_of_pos_left _ ht;have h4:q * V=q * top * (4294967296 * P)+(q * next) * P+q * V':=by rw [hV,Nat.mul_add,Nat.mul_add,Nat.mul_assoc,Nat.mul_assoc]
 have h5:high * (4294967296 * P)+u0 * P=q * top * (4294967296 * P)+(rest * 4294967296+u0) * P:=by
  rw [hq,Nat.add_mul,Nat.add_mul (rest * 4294967296),Nat.mul_assoc rest];omega
 omega
theorem step_facts {u v:List Nat} {m un u1 u0 top next high:Nat} (hu:u.length=m+3) (hv:v.length=m+2) (hud:Wd u) (hvd:Wd v)
  (e1:un=u.getD (m+2) 0) (e2:u1=u.getD (m+1) 0) (e3:u0=u.getD m 0) (e4:top=v.getD (m+1) 0) (e5:next=v.getD m 0) (e6:high=un * 4294967296+u1) (hW:val u<val v * 4294967296) :
  (∃ V',val v=top * (4294967296 * 4294967296 ^ m)+next * 4294967296 ^ m+V'∧V'<4294967296 ^ m) ∧
  high * (4294967296 * 4294967296 ^ m)+u0 * 4294967296 ^ m≤val u∧val u<high * (4294967296 * 4294967296 ^ m)+(u0+1) * 4294967296 ^ m∧high<top * 4294967296+4294967296:=by
 have a1:=val_take_succ u m;have a2:=val_take_succ u (m+1);have a3:=val_take_succ u (m+2);rw [List.take_of_length_le (by omega)] at a3;have b1:=val_take_succ v m;have b2:=val_take_succ v (m+1);rw [List.take_of_length_le (by omega)] at b2;have c1:=val_lt _ (hud.take m);have c2:=val_lt _ (hvd.take m);rw [List.length_take,Nat.min_eq_left (by omega)] at c1 c2;rw [← e3] at a1;rw [← e2] at a2;rw [← e1] at a3;rw [← e5] at b1;rw [← e4] at b2;have hu1:u1<4294967296:=by rw [e2];exact hud.getD _
 have hnx:next<4294967296:=by rw [e5];exact hvd.getD _
 have hu0:u0<4294967296:=by rw [e3];exact hud.getD _
 rw [Nat.pow_succ] at a2 b2;rw [show m+2=m+1+1 by omega,Nat.pow_succ,Nat.pow_succ] at a3;generalize 4294967296 ^ m=P at *
 generalize val (u.take m)=U' at *
 generalize val (v.take m)=V' at *
 have hv2:val v=top * (4294967296 * P)+next * P+V':=by
  rw [b2,b1,Nat.mul_comm P next,Nat.mul_comm (P * 4294967296) top,Nat.mul_comm P 4294967296];omega
 have hu2:val u=high * (4294967296 * P)+u0 * P+U':=by
  rw [show m+1+1=m+2 by omega] at a2;rw [a3,a2,a1,e6,Nat.add_mul,Nat.mul_comm P u0,Nat.mul_comm (P * 4294967296) u1,Nat.mul_comm P 4294967296,Nat.mul_comm (4294967296 * P * 4294967296) un,Nat.mul_assoc un,Nat.mul_comm (4294967296 * P) 4294967296];omega
 refine ⟨⟨V',hv2,c2⟩,by omega,by rw [Nat.add_mul];omega,?_⟩;rcases Nat.lt_or_ge high (top * 4294967296+4294967296) with h|h
 ·exact h
 ·exfalso;have h1:(top * 4294967296+4294967296) * (4294967296 * P)≤high * (4294967296 * P):=Nat.mul_le_mul_right _ h;have h2:(next+1) * P≤4294967296 * P:=Nat.mul_le_mul_right _ hnx;rw [Nat.add_mul] at h1 h2;have h3:val v<top * (4294967296 * P)+4294967296 * P:=by omega
  have h4:(top * (4294967296 * P)+4294967296 * P) * 4294967296=top * 4294967296 * (4294967296 * P)+4294967296 * (4294967296 * P):=by
   rw [Nat.add_mul,Nat.mul_right_comm top,Nat.mul_comm (4294967296 * P) 4294967296]
  omega
theorem digit {W V q:Nat} (hV:0<V) (h1:W / V≤q) (h2:q * V≤W+V):(¬ W<q * V→W / V=q∧W % V+q * V=W)∧(W<q * V→1≤q∧W / V=q - 1∧W % V+q * V=W+V):=by
 have h3:=Nat.div_add_mod W V;have h4:=Nat.mod_lt W hV;constructor
 ·intro h;have h5:q≤W / V:=(Nat.le_div_iff_mul_le hV).2 (by omega);have h6:W / V=q:=by omega
  rw [h6,Nat.mul_comm] at h3;exact ⟨h6,by omega⟩
 ·intro h
  have hq:1≤q:=by
   rcases Nat.eq_zero_or_pos q with h5|h5
   ·subst h5;simp at h
   ·exact h5
  obtain ⟨p,rfl⟩:∃ p,q=p+1:=⟨q - 1,by omega⟩;rw [Nat.add_mul,Nat.one_mul] at h h2;have h5:p≤W / V:=(Nat.le_div_iff_mul_le hV).2 (by omega);have h6:W / V<p+1:=by rw [Nat.div_lt_iff_lt_mul hV,Nat.add_mul,Nat.one_mul];exact h
  have h7:W / V=p:=by omega
  rw [h7,Nat.mul_comm] at h3;refine ⟨hq,by omega,?_⟩;rw [Nat.add_mul,Nat.one_mul];omega
def cmpN (a b:Nat):Int:=if a<b then -1 else if a=b then 0 else 1
theorem cmpN_lt {a b:Nat} (h:a<b):cmpN a b=-1:=if_pos h
theorem cmpN_eq {a b:Nat} (h:a=b):cmpN a b=0:=by rw [cmpN,if_neg (by omega),if_pos h]
theorem cmpN_gt {a b:Nat} (h:b<a):cmpN a b=1:=by rw [cmpN,if_neg (by omega),if_neg (by omega)]
theorem words_lt {p q:Nat} (h:(wordsOf p).length<(wordsOf q).length):p<q:=by
 have h1:=(length_lt q (wordsOf p).length).1 h;have h2:=(length_wordsOf p (wordsOf p).length).1 (Nat.le_refl _);omega
theorem div_step (p i:Nat):p / 4294967296 ^ i=(p / 4294967296 ^ (i+1)) * 4294967296+p / 4294967296 ^ i % 4294967296:=by
 rw [Nat.pow_succ,← Nat.div_div_eq_div_mul];omega
theorem lt_of_div_lt {p q m:Nat} (h:p / m<q / m):p<q:=by
 rcases Nat.lt_or_ge p q with h1|h1
 ·exact h1
 ·have:=Nat.div_le_div_right (c:=m) h1;omega
theorem words_step {p q i:Nat} (h:p / 4294967296 ^ (i+1)=q / 4294967296 ^ (i+1)) :
  ((wordsOf p).getD i 0=(wordsOf q).getD i 0→p / 4294967296 ^ i=q / 4294967296 ^ i)∧((wordsOf p).getD i 0<(wordsOf q).getD i 0→p<q):=by
 have h1:=div_step p i;have h2:=div_step q i;rw [getD_wordsOf,getD_wordsOf];refine ⟨fun h3=>by omega,fun h3=>lt_of_div_lt (m:=4294967296 ^ i) (by omega)⟩
theorem words_top (p:Nat):p / 4294967296 ^ (wordsOf p).length=0:=Nat.div_eq_of_lt ((length_wordsOf p _).1 (Nat.le_refl _))
end Go.Proofs.YtdgleeglndcjhaaGreatDoor
namespace Go.Proofs.YtdgleeglndcjhaaGreatDoor
open Go.RowKit
def lenOf:Value→Nat|.slice _ k _=>k|_=>0
def U32 (l:List Nat):List Value:=l.map fun x:Nat=>Value.int .u32 (x:Int)
def RL (w:World) (v:Value) (l:List Nat):Prop:=SlC w v 1 l.length (U32 l)∧Wd l
def RN (w:World) (v:Value) (n:Nat):Prop:=RL w v (wordsOf n)
theorem RL.below {w w':World} {v:Value} {l:List Nat} {B:Nat} (h:RL w v l) (hb:Below B w w') (hB:w.heap.size≤B):RL w' v l:=⟨h.1.below hb hB,h.2⟩
theorem RN.below {w w':World} {v:Value} {n:Nat} {B:Nat} (h:RN w v n) (hb:Below B w w') (hB:w.heap.size≤B):RN w' v n:=RL.below h hb hB
theorem RL.take {w:World} {A:Option Addr} {c:Nat} {l:List Nat} (h:RL w (.slice A l.length c) l) (k:Nat) (hk:k≤l.length):RL w (.slice A k c) (l.take k):=by
 have:=SlC.take h.1 k hk;refine ⟨?_,h.2.take k⟩;unfold U32;rw [List.map_take,List.length_take,Nat.min_eq_left hk];simpa [U32] using this
theorem RL.form {w:World} {v:Value} {l:List Nat} (h:RL w v l):∃ A c,v=.slice A l.length c∧l.length≤c∧(∀ k,k<l.length→∃ b o,A=some ⟨b,o,none⟩∧w.cell? ⟨b,o+k,none⟩=some (.int .u32 (l.getD k 0:Nat))∧b<w.heap.size∧l.getD k 0<4294967296):=by
 obtain ⟨⟨A,c,rfl,hc,h3,h4⟩,hd⟩:=h;refine ⟨A,c,rfl,hc,fun k hk=>?_⟩;obtain ⟨b,o,e,h⟩:=h4 (by simp [U32];omega);have hx:=h k _ (show (U32 l)[k]?=some (.int .u32 (l.getD k 0:Nat)) by simp [U32,hk]);exact ⟨b,o,e,hx,World.block_lt_of_cell? w _ hx,hd.getD k⟩
theorem U32_length (l:List Nat):(U32 l).length=l.length:=by simp [U32]
theorem U32_get (l:List Nat) (i:Nat) (h:i<l.length):(U32 l)[i]?=some (.int .u32 (l.getD i 0:Nat)):=by simp [U32,h]
theorem U32_set (l:List Nat) (i:Nat) (x:Nat):(U32 l).set i (.int .u32 (x:Int))=U32 (l.set i x):=by simp [U32,List.map_set]
theorem set_mid (done rest:List Nat) (x y:Nat) (k:Nat) (h:done.length=k):(done ++ x :: rest).set k y=done ++ [y] ++ rest:=by
 subst h;simp
theorem rep_pos (n:Nat) (h:0<n):List.replicate n (0:Nat)=0 :: List.replicate (n - 1) 0:=by
 obtain ⟨m,rfl⟩:∃ m,n=m+1:=⟨n - 1,by omega⟩;simp [List.replicate_succ]
theorem getD_mid (done rest:List Nat) (x k:Nat) (h:done.length=k):(done ++ x :: rest).getD k 0=x:=by
 subst h;simp
theorem RL_blk {w:World} {g:Nat} {l:List Nat} (h:Blk w g 43 (U32 l)) (hd:Wd l) (n:Nat) (hn:n=l.length):RL w (.slice (some ⟨g,0,none⟩) n n) l:=by
 subst hn;have:=h.slc l.length l.length (by simp [U32]) ql;rw [List.take_of_length_le (by simp [U32])] at this;exact ⟨this,hd⟩
theorem RL.drewN {w:World} {v:Value} {l:List Nat} (h:RL w v l) (n:Nat):RL (w.drewN n) v l:=h.below (below_drewN (Below.refl _ _) n) ql
theorem Blk.drewN {w:World} {g:Nat} {t:TypeId} {l:List Value} (h:Blk w g t l) (n:Nat):Blk (w.drewN n) g t l:=h.below (below_drewN (Below.refl _ _) n) h.lt
theorem Blk.far {w:World} {g:Nat} {t:TypeId} {l:List Value} (h:Blk w g t l) (p:Addr) (u:Value) (hp:g≠p.block):Blk (w.setCell p u) g t l:=by
 unfold Blk at *
 rw [Below.heap_setCell _ _ _ _ hp];exact h
theorem RL.far {w:World} {v:Value} {l:List Nat} (h:RL w v l) {g:Nat} {t:TypeId} {cs:List Value} (hB:Blk w g t cs) (hcs:∀ x ∈ cs,∀ n,x≠.int .u32 n) (j:Nat) (u:Value):RL (w.setCell ⟨g,j,none⟩ u) v l:=by
 refine ⟨?_,h.2⟩;obtain ⟨A,c,h1,h2,h3,h4⟩:=h.1;refine ⟨A,c,h1,h2,h3,fun hp=>?_⟩;obtain ⟨b,o,h5,h6⟩:=h4 hp
 have hne:b≠g:=by
  rintro rfl;have hl:0<l.length:=by simpa [U32] using hp
  have h0:=h6 0 _ (U32_get l 0 hl);rw [hB.cell] at h0;exact hcs _ (List.mem_of_getElem? h0) _ rfl
 refine ⟨b,o,h5,fun k x hx=>?_⟩;rw [← h6 k x hx];unfold World.cell?;rw [Below.heap_setCell _ _ _ _ hne]
theorem RN.far {w:World} {v:Value} {n:Nat} (h:RN w v n) {g:Nat} {t:TypeId} {cs:List Value} (hB:Blk w g t cs) (hcs:∀ x ∈ cs,∀ n,x≠.int .u32 n) (j:Nat) (u:Value):RN (w.setCell ⟨g,j,none⟩ u) v n:=RL.far h hB hcs j u
theorem nat_trim (w:World) (v:Value) (l:List Nat) (h:RL w v l) (hl:l.length≤1000000000) :
  Calls Tryz.prog 63 #[v] w fun e w'=>∃ v',e=.returned (.agg #[v'])∧RN w' v' (val l)∧Below w.heap.size w w':=by
 have HR:=qh h;have HV:=qh (trimL_val l h.2);obtain ⟨A,c,rfl,hc,hcell⟩:=h.form;clear h;go_enter Tryz.func63,Tryz.ntmps63;go_wp2_with fail;go_loop [0] (fun s=>∃ k,k≤l.length∧s=.slice A k c∧trimL (l.take k)=trimL l) (fun s=>lenOf s)
 case atStart=>exact ⟨l.length,ql,rfl,by simp⟩
 case round =>
  obtain ⟨k,hk,rfl,hq⟩:=hrel;have Hq:=qh hq;clear hq;by_cases hk0:0<k
  ·obtain ⟨b,o,rfl,hx,hlt,hxb⟩:=hcell (k - 1) (by omega);obtain ⟨m,rfl⟩:∃ m,k=m+1:=⟨k - 1,by omega⟩;simp only [Nat.add_sub_cancel] at hx hxb;have hts:=take_succ_getD l m (by omega);generalize l.getD m 0=x at hx hts hxb;have Hts:=qh hts;clear hts hcell;by_cases hz:x=0
   ·subst hz
    go_wp2
    go_round
    case rel=>exact ⟨m,by omega,by go_num,by rw [← Hq.o,Hts.o,trimL_snoc0]⟩
    case measure=>simp [lenOf]
   ·have hz':((x:Int) == 0)=false:=by simpa using hz
    have Hz:=qh hz;clear hz
    go_wp2
    refine bodyPost_ret (v:=.agg #[.slice (some ⟨b,o,none⟩) (m+1) c]) (by simp [results,Tryz.results63,go_sem]) rfl ?_;refine ⟨_,rfl,?_,(Below.refl _ _).alloc ql _⟩;unfold RN;rw [← HV.o,← Hq.o,Hts.o,trimL_snoc _ _ Hz.o,← Hts.o];exact (HR.o.take _ hk).below ((Below.refl w.heap.size _).alloc ql _) ql
  ·obtain rfl:k=0:=by omega
   go_wp2
   refine bodyPost_ret (v:=.agg #[.slice A 0 c]) (by simp [results,Tryz.results63,go_sem]) rfl ?_;refine ⟨_,rfl,?_,(Below.refl _ _).alloc ql _⟩;unfold RN;rw [← HV.o,← Hq.o];exact (HR.o.take 0 hk).below ((Below.refl w.heap.size _).alloc ql _) ql
theorem nat_order (w:World) (b:Bool):Calls Tryz.prog 179 #[.bool b] w fun e w'=>e=.returned (.int .i64 (if b then -1 else 1))∧w=w':=by
 cases b <;> (go_enter Tryz.func179,Tryz.ntmps179;go_wp2;go_ret;exact ⟨rfl,rfl⟩)
theorem nat_at (w:World) (v:Value) (l:List Nat) (i:Nat) (h:RL w v l) (hl:l.length≤1000000000) (hi:i≤1000000000) :
  Calls Tryz.prog 198 #[v,.int .i64 i] w fun e w'=>e=.returned (.int .u64 (l.getD i 0:Nat))∧w=w':=by
 obtain ⟨A,c,rfl,hc,hcell⟩:=h.form;clear h;by_cases hlt:i<l.length
 ·obtain ⟨b,o,rfl,hx,hb,hxb⟩:=hcell i hlt;clear hcell;generalize l.getD i 0=x at hx hxb ⊢;go_enter Tryz.func198,Tryz.ntmps198
  go_wp2
  go_ret
  exact ⟨rfl,rfl⟩
 ·have h0:l.getD i 0=0:=by rw [List.getD_eq_getElem?_getD,List.getElem?_eq_none (by omega)];rfl
  rw [h0];clear hcell h0;go_enter Tryz.func198,Tryz.ntmps198
  go_wp2
  go_ret
  exact ⟨rfl,rfl⟩
theorem cast_bne (x:Nat):((x:Int) != 0)=(x != 0):=by
 by_cases h:x=0
 ·subst h;rfl
 ·have h2:(x:Int)≠0:=by omega
  rw [bne_iff_ne.2 h,bne_iff_ne.2 h2]
def goodL (l:List Nat):Bool:=l.length == 0 || l.getD (l.length - 1) 0 != 0
theorem goodL_words {l:List Nat} (h:Wd l) (hg:goodL l=true):wordsOf (val l)=l:=by
 refine wordsOf_of_last h ?_;simp only [goodL,Bool.or_eq_true,beq_iff_eq,bne_iff_ne] at hg;exact hg.imp List.eq_nil_of_length_eq_zero id
theorem goodL_wordsOf (n:Nat):goodL (wordsOf n)=true:=by
 by_cases h:n=0
 ·subst h;rw [wordsOf_zero];rfl
 ·simp only [goodL,Bool.or_eq_true,bne_iff_ne];exact .inr (wordsOf_last h)
theorem nat_Good (w:World) (v:Value) (l:List Nat) (h:RL w v l) (hl:l.length≤1000000000) :
  Calls Tryz.prog 75 #[.agg #[v]] w fun e w'=>e=.returned (.bool (goodL l))∧Below w.heap.size w w':=by
 obtain ⟨A,c,rfl,hc,hcell⟩:=h.form;clear h;by_cases h0:l.length=0
 ·have hg:goodL l=true:=by simp [goodL,h0]
  rw [h0,hg];clear hcell hg h0;go_enter Tryz.func75,Tryz.ntmps75
  go_wp2
  go_ret
  exact ⟨rfl,(Below.refl _ _).alloc ql _⟩
 ·obtain ⟨b,o,rfl,hx,hb,hxb⟩:=hcell (l.length - 1) (by omega)
  have hg:goodL l=((l.getD (l.length - 1) 0:Int) != 0):=by
   simp only [goodL,show (l.length == 0)=false by simpa using h0,Bool.false_or];exact (cast_bne _).symm
  rw [hg];generalize l.getD (l.length - 1) 0=x at hx hxb ⊢;generalize l.length=n at *
  have hn:0<n:=by omega
  have hn':((n:Int) == 0)=false:=by simpa using h0
  obtain ⟨m,rfl⟩:∃ m,n=m+1:=⟨n - 1,by omega⟩;simp only [Nat.add_sub_cancel] at hx;clear hcell hg h0;go_enter Tryz.func75,Tryz.ntmps75
  go_wp2
  go_ret
  exact ⟨rfl,(Below.refl _ _).alloc ql _⟩
theorem nat_Cmp (w:World) (x y:Value) (a b:List Nat) (hx:RL w x a) (hy:RL w y b) (ha:a.length≤1000000000) (hb:b.length≤1000000000) :
  Calls Tryz.prog 122 #[.agg #[x],.agg #[y]] w fun e w'=>e=.returned (.int .i64 (cmpN (val a) (val b)))∧Below w.heap.size w w':=by
 have ha':(wordsOf (val a)).length≤1000000000:=Nat.le_trans ((length_wordsOf _ _).2 (val_lt a hx.2)) ha;have hb':(wordsOf (val b)).length≤1000000000:=Nat.le_trans ((length_wordsOf _ _).2 (val_lt b hy.2)) hb;obtain ⟨p,hp⟩:∃ p,p=val a:=⟨_,rfl⟩;obtain ⟨q,hq⟩:∃ p,p=val b:=⟨_,rfl⟩;rw [← hp,← hq];rw [← hp] at ha';rw [← hq] at hb';have Hp:=qh hp;have Hq:=qh hq;clear hp hq;go_enter Tryz.func122,Tryz.ntmps122;go_wp2_with fail;refine wp_letter (fun w1=>w1.cell? ⟨w.heap.size,0,none⟩=some x∧w1.cell? ⟨w.heap.size+1,0,none⟩=some y∧w.heap.size+2≤w1.heap.size∧Below w.heap.size w w1) ⟨by simp [go_sem],by simp [go_sem],by simp,((Below.refl _ _).alloc (by simp) _).alloc (by simp) _⟩ ?_;rintro w1 ⟨cx,cy,hN,hB⟩;have HK:Hid (∀ w',Below (w.heap.size+2) w1 w'→w'.cell? ⟨w.heap.size,0,none⟩=some x∧w'.cell? ⟨w.heap.size+1,0,none⟩=some y∧Below (w.heap.size+2) w1 w'):=fun w' h=>⟨(h.cell (by simp)).trans cx,(h.cell (by simp)).trans cy,h⟩;have HX:Hid (∀ w',Below (w.heap.size+2) w1 w'→RL w' x a∧RL w' y b):=fun w' h=>⟨hx.below (hB.trans (h.mono (by omega))) ql,hy.below (hB.trans (h.mono (by omega))) ql⟩;clear hx hy
 go_region_held3 (fun w'=>w'.cell? ⟨w.heap.size,0,none⟩=some x∧w'.cell? ⟨w.heap.size+1,0,none⟩=some y∧Below (w.heap.size+2) w1 w')
  (first|exact HK.o _ (Below.refl _ _).drew|(go_split_ands;first|exact HK.o _ (below_on ‹Below (w.heap.size+2) w1 _› hN hb3)|exact HK.o _ (below_on ‹Below (w.heap.size+2) w1 _› hN hb2)))
  (first|((with_reducible refine (nat_trim _ x a ?_ ha).mono ?_);(exact (HX.o _ (by go_split_ands;assumption)).1);rintro e w2 ⟨v2,rfl,hr2,hb2⟩)|((with_reducible refine (nat_trim _ y b ?_ hb).mono ?_);(exact (HX.o _ (by go_split_ands;assumption)).2);rintro e w3 ⟨v3,rfl,hr3,hb3⟩))
 have HB3:Hid (Below w.heap.size w w3):=by go_split_ands;exact hB.trans (Below.mono ‹_› (by omega))
 have hr2:=hr2.below hb3 ql;rw [← Hp.o] at hr2;rw [← Hq.o] at hr3;obtain ⟨A2,c2,rfl,hc2,hcell2⟩:=hr2.form;obtain ⟨A3,c3,rfl,hc3,hcell3⟩:=hr3.form;clear hr2 hr3 hb2 hb3 HK HX hN hB cx cy ha hb Hp Hq;by_cases hlen:(wordsOf p).length=(wordsOf q).length
 ·have hl1:(((wordsOf p).length:Int) != ((wordsOf q).length:Int))=false:=by rw [hlen];simp
  rw [hlen] at hcell2 ;have hp0:=words_top p;have hq0:=words_top q;rw [hlen] at hp0;rw [← hq0] at hp0;clear hq0;have Htop:=qh hp0;clear hp0;rw [hlen];go_wp2_with fail;generalize hn:(wordsOf q).length=n at *
  have Hn:=qh hn;clear hn;go_loopw [7] (fun i wr=>∃ k:Nat,k≤n∧i=.int .i64 ((k:Int) - 1)∧p / 4294967296 ^ k=q / 4294967296 ^ k∧Below w3.heap.size w3 wr) (fun i _=>(intOf i+1).toNat)
  case atStart=>exact ⟨n,ql,rfl,Htop.o,Below.refl _ _⟩
  case round =>
   obtain ⟨k,hk,rfl,he,hbw⟩:=hrel;have He:=qh he;clear he;by_cases hk0:0<k
   ·obtain ⟨m,rfl⟩:∃ m,k=m+1:=⟨k - 1,by omega⟩;rw [show (((m+1:Nat):Int) - 1)=(m:Int) by omega];obtain ⟨b2,o2,rfl,hx2,hlt2,hxb2⟩:=hcell2 m (by omega);obtain ⟨b3,o3,rfl,hx3,hlt3,hxb3⟩:=hcell3 m (by omega);have hs:=words_step He.o;rw [← hbw.cell (p:=⟨b2,o2+m,none⟩) hlt2] at hx2;rw [← hbw.cell (p:=⟨b3,o3+m,none⟩) hlt3] at hx3;generalize hg2:(wordsOf p).getD m 0=s at *
    generalize hg3:(wordsOf q).getD m 0=t at *
    have Hg2:=qh hg2;have Hg3:=qh hg3;clear hg2 hg3;have Hs:=qh hs;have hm0:(0:Int)≤(m:Int):=by omega
    have hmn:(m:Int)<(n:Int):=by omega
    clear hs hcell2 hcell3;have HBw:=qh hbw;clear hbw;by_cases hst:s=t
    ·subst hst;have hne:((s:Int) != (s:Int))=false:=by simp
     go_wp2_with fail;go_quiet (fail);go_wp2_with fail;refine ⟨⟨m,by omega,rfl,Hs.o.1 (by first|rfl|trivial),below_drewN HBw.o _⟩,by simp [intOf]⟩
    ·have hne:((s:Int) != (t:Int))=true:=by rw [bne_iff_ne];omega
     go_wp2_with fail;go_quiet (fail);have hx4:(wr.drewN nq).cell? ⟨b2,o2+m,none⟩=some (.int .u32 s):=hx2;have hx5:(wr.drewN nq).cell? ⟨b3,o3+m,none⟩=some (.int .u32 t):=hx3;have HB4:Hid (Below w3.heap.size w3 (wr.drewN nq)):=below_drewN HBw.o _;generalize wr.drewN nq=w4 at hx4 hx5 HB4 ⊢;clear hx2 hx3 HBw;by_cases hlt:s<t
     ·go_wp2_with fail;go_quiet ((go_at_call 179;exact quiet_eq (nat_order _ _)))
      go_wp2
      go_ret
      rw [cmpN_lt (Hs.o.2 hlt)];exact ⟨rfl,HB3.o.trans ((below_drewN HB4.o _).mono HB3.o.size)⟩
     ·go_wp2_with fail;go_quiet ((go_at_call 179;exact quiet_eq (nat_order _ _)))
      go_wp2
      go_ret
      rw [cmpN_gt ((words_step He.o.symm).2 (by rw [Hg2.o,Hg3.o];omega))];exact ⟨rfl,HB3.o.trans ((below_drewN HB4.o _).mono HB3.o.size)⟩
   ·obtain rfl:k=0:=by omega
    go_wp2
    go_ret
    refine ⟨?_,HB3.o.trans (hbw.mono HB3.o.size)⟩;rw [cmpN_eq (by have:=He.o;simpa using this)]
    rfl
 ·have hl1:(((wordsOf p).length:Int) != ((wordsOf q).length:Int))=true:=by rw [bne_iff_ne];omega
  by_cases hlt:(wordsOf p).length<(wordsOf q).length
  ·have Hlt:=qh (cmpN_lt (words_lt hlt));generalize (wordsOf p).length=m at *
   generalize (wordsOf q).length=n at *
   clear hcell2 hcell3;go_wp2_with ((go_at_call 179;refine (nat_order _ _).mono ?_;rintro e w' ⟨rfl,rfl⟩))
   go_ret
   refine ⟨?_,HB3.o⟩;rw [Hlt.o];simp
  ·have Hlt:=qh (cmpN_gt (words_lt (p:=q) (q:=p) (by omega)));generalize (wordsOf p).length=m at *
   generalize (wordsOf q).length=n at *
   clear hcell2 hcell3;go_wp2_with ((go_at_call 179;refine (nat_order _ _).mono ?_;rintro e w' ⟨rfl,rfl⟩))
   go_ret
   refine ⟨?_,HB3.o⟩;rw [Hlt.o];simp
end Go.Proofs.YtdgleeglndcjhaaGreatDoor
