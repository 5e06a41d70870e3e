import Derived.Test.YtdgleeglndcjhaaGreatDoorW37
import Derived.Deep.Slices
import Derived.Deep.Strs
set_option linter.constructorNameAsVariable false
set_option linter.unusedVariables false
set_option maxRecDepth 100000
namespace Go.Proofs.YtdgleeglndcjhaaGreatDoor
open Go.ChangeShapes Go.WideShapes Go.ChangeAt Go.RowKit Go.Deep
theorem spot_at {W:World} {a:Addr} {u:Value} (h:W.cell? a=some u):a=⟨a.block,a.off,none⟩:=by
 obtain ⟨b,o,s⟩:=a
 have:s=none:=by simpa using World.cell?_spot h
 rw [this]
theorem open_bounds {H:Type} {enc:TypeId × Value→H} {W:World} {n:Nat} {v:Value} {y:DataW H × List MemPlace} (h:DataW.trod enc Tryz.prog W 0 (fun _=>true) true n 45 [v]=some y) :
  ∃ A k c l,v=.slice A k c∧IntsAre W A k c l∧∀ x ∈ l,In64 x:=by
 rcases open_ints Tryz.underlying45 Tryz.underlying3 (by kernel_rfl) h with ⟨hcs,-⟩|⟨a,len,cap,zs,hcs,-,hl,-,hz,-,hcell,hwz⟩
 ·obtain rfl:v=.slice none 0 0:=by simpa using hcs
  exact ⟨none,0,0,[],rfl,SlC.nil _ _ _ _,by simp⟩
 ·obtain rfl:v=.slice (some a) len cap:=by simpa using hcs
  rw [if_pos rfl] at hz
  have hlen:(zs.take len).length=len:=by simp;omega
  refine ⟨some a,len,cap,zs.take len,rfl,?_,fun z hzm=>?_⟩
  ·refine ⟨some a,cap,by rw [hlen],by rw [hlen];exact hl,by simp [ints],fun hp=>?_⟩
   have h0:0<zs.length:=by
    simp [ints] at hp
    rcases Nat.eq_zero_or_pos zs.length with h0|h0
    ·omega
    ·exact h0
   have hsp:a=⟨a.block,a.off,none⟩:=by
    have:=spot_at (hcell 0 h0)
    simpa [Addr.add] using this
   refine ⟨a.block,a.off,by rw [← hsp],fun j x hx=>?_⟩
   simp only [ints,List.getElem?_map,Option.map_eq_some_iff] at hx
   obtain ⟨z,hz1,rfl⟩:=hx
   have hj:j<(zs.take len).length:=(List.getElem?_eq_some_iff.1 hz1).1
   have hj2:j<zs.length:=by rw [List.length_take] at hj;omega
   have:=hcell j hj2
   rw [hsp,add_plain] at this
   rw [this]
   have e:zs[j]?=some z:=by rw [List.getElem?_take] at hz1;split at hz1;exact hz1;cases hz1
   rw [List.getD_eq_getElem?_getD,e];rfl
  ·have h5:=hwz z (List.mem_of_mem_take hzm)
   have e1:IntKind.i64.min=-9223372036854775808:=rfl
   have e2:IntKind.i64.max=9223372036854775807:=rfl
   simp only [Lit.wf,e1,e2,Bool.and_eq_true,decide_eq_true_eq] at h5
   exact h5
def InC (c:Cnd):Prop:=c.letter<256∧In64 c.mod∧(∀ x ∈ c.fr,In64 x)∧∀ x ∈ c.to,In64 x
theorem cells_five {W:World} {a:Addr} {cs:List Value} (h:W.cells? 0 a 5=some cs):∃ x0 x1 x2 x3 x4,cs=[x0,x1,x2,x3,x4]∧W.cell? a=some x0∧W.cell? (a.add 1)=some x1∧W.cell? (a.add 2)=some x2∧W.cell? (a.add 3)=some x3∧W.cell? (a.add 4)=some x4:=by
 obtain ⟨-,hl,hc⟩:=World.cells?_some h
 match cs,hl with
 | [x0,x1,x2,x3,x4],_ =>
  have h0:=hc 0 (by omega)
  have h1:=hc 1 (by omega)
  have h2:=hc 2 (by omega)
  have h3:=hc 3 (by omega)
  have h4:=hc 4 (by omega)
  exact ⟨x0,x1,x2,x3,x4,rfl,by simpa [Addr.add] using h0,by simpa using h1,by simpa using h2,by simpa using h3,by simpa using h4⟩
theorem trod_cond {H:Type} {enc:TypeId × Value→H} {W:World} {n:Nat} {cs:List Value} {y:DataW H × List MemPlace} (h:DataW.trod enc Tryz.prog W 0 (fun _=>true) true n 47 cs=some y) {x0 x1 x2 x3 x4:Value} (he:cs=[x0,x1,x2,x3,x4]) :
  ∃ d:Cnd,InC d∧x0=.int .u8 (d.letter:Int)∧x1=.int .i64 d.mod∧x2=.bool d.nt∧IntsV W x3 d.fr∧IntsV W x4 d.to:=by
 subst he
 obtain ⟨xs,m,hn,-,-,hlen,hf⟩:=DataW.trod_struct Tryz.underlying47 h
 match xs,hlen with
 | [y0,y1,y2,y3,y4],_ =>
  have h0:DataW.trod enc Tryz.prog W 0 (fun _=>true) true m 5 (List.take (Tryz.prog.cellsOf 5) (List.drop 0 [x0,x1,x2,x3,x4]))=some y0:=hf 0 _ rfl
  have h1:DataW.trod enc Tryz.prog W 0 (fun _=>true) true m 3 (List.take (Tryz.prog.cellsOf 3) (List.drop 1 [x0,x1,x2,x3,x4]))=some y1:=hf 1 _ rfl
  have h2:DataW.trod enc Tryz.prog W 0 (fun _=>true) true m 4 (List.take (Tryz.prog.cellsOf 4) (List.drop 2 [x0,x1,x2,x3,x4]))=some y2:=hf 2 _ rfl
  have h3:DataW.trod enc Tryz.prog W 0 (fun _=>true) true m 45 (List.take (Tryz.prog.cellsOf 45) (List.drop 3 [x0,x1,x2,x3,x4]))=some y3:=hf 3 _ rfl
  have h4:DataW.trod enc Tryz.prog W 0 (fun _=>true) true m 45 (List.take (Tryz.prog.cellsOf 45) (List.drop 4 [x0,x1,x2,x3,x4]))=some y4:=hf 4 _ rfl
  rw [show Tryz.prog.cellsOf 5=1 by kernel_rfl] at h0
  rw [show Tryz.prog.cellsOf 3=1 by kernel_rfl] at h1
  rw [show Tryz.prog.cellsOf 4=1 by kernel_rfl] at h2
  rw [show Tryz.prog.cellsOf 45=1 by kernel_rfl] at h3 h4
  obtain ⟨z0,e0,-,w0⟩:=DataW.trod_int Tryz.underlying5 h0
  obtain ⟨z1,e1,-,w1⟩:=DataW.trod_int Tryz.underlying3 h1
  obtain ⟨b2,e2,-⟩:=DataW.trod_bool Tryz.underlying4 h2
  obtain ⟨FA,fn,fc,lf,e3,hF,iF⟩:=open_bounds (enc:=enc) (n:=m) (v:=x3) (y:=y3) (by simpa using h3)
  obtain ⟨TA,tn,tc,lt,e4,hT,iT⟩:=open_bounds (enc:=enc) (n:=m) (v:=x4) (y:=y4) (by simpa using h4)
  obtain rfl:x0=.int .u8 z0:=by simpa using e0
  obtain rfl:x1=.int .i64 z1:=by simpa using e1
  obtain rfl:x2=.bool b2:=by simpa using e2
  have m1:IntKind.i64.min=-9223372036854775808:=rfl
  have m2:IntKind.i64.max=9223372036854775807:=rfl
  have m3:IntKind.u8.min=0:=rfl
  have m4:IntKind.u8.max=255:=rfl
  simp only [Lit.wf,m1,m2,m3,m4,Bool.and_eq_true,decide_eq_true_eq] at w0 w1
  refine ⟨⟨z0.toNat,z1,b2,lf,lt⟩,⟨by show z0.toNat<256;omega,w1,iF,iT⟩,?_,rfl,rfl,⟨FA,fn,fc,e3,hF⟩,⟨TA,tn,tc,e4,hT⟩⟩
  show Value.int .u8 z0=.int .u8 ((z0.toNat:Nat):Int)
  rw [Int.toNat_of_nonneg w0.1]
theorem open_conds {H:Type} {enc:TypeId × Value→H} {W:World} {n:Nat} {v:Value} {y:DataW H × List MemPlace} (h:DataW.trod enc Tryz.prog W 0 (fun _=>true) true n 48 [v]=some y) :
  ∃ A k c L,v=.slice A k c∧CondsIs W A k c L∧∀ d ∈ L,InC d:=by
 rcases open_slice Tryz.underlying48 h with ⟨hcs,-⟩|⟨a,len,cap,m,n',D,Pl,hcs,-,hl,-,hm,-,hc⟩
 ·obtain rfl:v=.slice none 0 0:=by simpa using hcs
  exact ⟨none,0,0,[],rfl,⟨[],rfl,SlC.nil _ _ _ _,fun e he=>by cases he⟩,by simp⟩
 ·obtain rfl:v=.slice (some a) len cap:=by simpa using hcs
  rw [if_pos rfl] at hm
  have each:∀ i,i<len→∃ e:E3,(InC e.1∧IntsV W e.2.1 e.1.fr∧IntsV W e.2.2 e.1.to)∧W.cell? (a.add (i * 5))=some (.int .u8 (e.1.letter:Int))∧W.cell? ((a.add (i * 5)).add 1)=some (.int .i64 e.1.mod)∧W.cell? ((a.add (i * 5)).add 2)=some (.bool e.1.nt)∧W.cell? ((a.add (i * 5)).add 3)=some e.2.1∧W.cell? ((a.add (i * 5)).add 4)=some e.2.2:=fun i hi=>by
   obtain ⟨cs',h1,h2⟩:=hc i (by omega)
   rw [show Tryz.prog.cellsOf 47=5 by kernel_rfl] at h1
   obtain ⟨x0,x1,x2,x3,x4,e,c0,c1,c2,c3,c4⟩:=cells_five h1
   obtain ⟨d,hd,rfl,rfl,rfl,h3,h4⟩:=trod_cond h2 e
   exact ⟨(d,x3,x4),⟨hd,h3,h4⟩,c0,c1,c2,c3,c4⟩
  obtain ⟨F,hF⟩:=(haveI:Inhabited E3:=⟨(⟨0,0,false,[],[]⟩,.slice none 0 0,.slice none 0 0)⟩;choose_lt each)
  have hlen:((List.range len).map F).length=len:=by simp
  refine ⟨some a,len,cap,((List.range len).map F).map (·.1),rfl,⟨(List.range len).map F,rfl,?_,fun e he=>?_⟩,fun d hd=>?_⟩
  ·refine ⟨some a,cap,by rw [hlen],by rw [hlen];exact hl,by rw [cellsC_len],fun hp=>?_⟩
   have h0:0<len:=by rw [cellsC_len] at hp;simp at hp;omega
   have hsp:a=⟨a.block,a.off,none⟩:=by
    have:=spot_at (hF 0 h0).2.1
    simpa [Addr.add] using this
   refine ⟨a.block,a.off,by rw [← hsp],fun j x hx=>?_⟩
   have hjl:j<len * 5:=by
    obtain ⟨hj,-⟩:=List.getElem?_eq_some_iff.1 hx
    rw [cellsC_len] at hj
    simpa using hj
   obtain ⟨q,i,hi,rfl⟩:∃ q i,i<5∧j=q * 5+i:=⟨j / 5,j % 5,by omega,by omega⟩
   have hq:q<len:=by omega
   rw [cellsC_at _ q i (F q) (by rw [List.getElem?_map,List.getElem?_range hq];rfl) hi] at hx
   obtain ⟨-,f0,f1,f2,f3,f4⟩:=hF q hq
   rw [hsp,add_plain] at f0 f1 f2 f3 f4
   rw [add_plain] at f1 f2 f3 f4
   rw [← Nat.add_assoc]
   match i,hi with
   | 0,_=>cases hx;exact f0
   | 1,_=>cases hx;exact f1
   | 2,_=>cases hx;exact f2
   | 3,_=>cases hx;exact f3
   | 4,_=>cases hx;exact f4
  ·obtain ⟨i,hi,rfl⟩:=List.mem_map.1 he
   exact (hF i (by simpa using hi)).1.2
  ·obtain ⟨e,he,rfl⟩:=List.mem_map.1 hd
   obtain ⟨i,hi,rfl⟩:=List.mem_map.1 he
   exact (hF i (by simpa using hi)).1.1
theorem f2_map {α β γ:Type} {R:β→γ→Prop} (f:α→β) (g:α→γ):∀ l:List α,(∀ a ∈ l,R (f a) (g a))→F2 R (l.map f) (l.map g)
 | [],_=>.nil
 | a :: l,h=>.cons (h a (by simp)) (f2_map f g l fun b hb=>h b (by simp [hb]))
theorem open_rows1 {H:Type} {enc:TypeId × Value→H} {W:World} {n:Nat} {v:Value} {y:DataW H × List MemPlace} (h:DataW.trod enc Tryz.prog W 0 (fun _=>true) true n 28 [v]=some y) :
  ∃ A k c r,v=.slice A k c∧RuleIs W A k c r∧InRu r:=by
 rcases open_slice Tryz.underlying28 h with ⟨hcs,-⟩|⟨a,len,cap,m,n',D,Pl,hcs,-,hl,-,hm,-,hc⟩
 ·obtain rfl:v=.slice none 0 0:=by simpa using hcs
  exact ⟨none,0,0,[],rfl,⟨[],SlC.nil _ _ _ _,.nil⟩,fun l hl=>by cases hl⟩
 ·obtain rfl:v=.slice (some a) len cap:=by simpa using hcs
  rw [if_pos rfl] at hm
  have each:∀ i,i<len→∃ e:Value × List Cnd,W.cell? (a.add i)=some e.1∧(∃ A n c,e.1=.slice A n c∧CondsIs W A n c e.2)∧∀ d ∈ e.2,InC d:=fun i hi=>by
   obtain ⟨cs',h1,h2⟩:=hc i (by omega)
   rw [show Tryz.prog.cellsOf 48=1 by kernel_rfl,Nat.mul_one] at h1
   obtain ⟨-,hl1,hc1⟩:=World.cells?_some h1
   match cs',hl1 with
   | [x],_ =>
    have c0:W.cell? (a.add i)=some x:=by have:=hc1 0 (by omega);simpa [Addr.add] using this
    obtain ⟨A,k,c,L,rfl,hL,hi⟩:=open_conds (enc:=enc) h2
    exact ⟨(_,L),c0,⟨_,_,_,rfl,hL⟩,hi⟩
  obtain ⟨F,hF⟩:=(haveI:Inhabited (Value × List Cnd):=⟨(.slice none 0 0,[])⟩;choose_lt each)
  have hlen:((List.range len).map fun i=>(F i).2).length=len:=by simp
  refine ⟨some a,len,cap,(List.range len).map fun i=>(F i).2,rfl,⟨(List.range len).map fun i=>(F i).1,?_,?_⟩,fun l hl=>?_⟩
  ·refine ⟨some a,cap,by rw [hlen],by rw [hlen];exact hl,by simp,fun hp=>?_⟩
   have h0:0<len:=by simpa using hp
   have hsp:a=⟨a.block,a.off,none⟩:=by
    have:=spot_at (hF 0 h0).1
    simpa [Addr.add] using this
   refine ⟨a.block,a.off,by rw [← hsp],fun j x hx=>?_⟩
   simp only [List.getElem?_map,Option.map_eq_some_iff] at hx
   obtain ⟨i,hi,rfl⟩:=hx
   rw [List.getElem?_eq_some_iff] at hi
   obtain ⟨hi1,hi2⟩:=hi
   have hjl:j<len:=by simpa using hi1
   obtain rfl:j=i:=by simpa using hi2
   have:=(hF j hjl).1
   rw [hsp,add_plain] at this
   exact this
  ·exact f2_map _ _ _ fun i hi=>(hF i (by simpa using hi)).2.1
  ·obtain ⟨i,hi,rfl⟩:=List.mem_map.1 hl
   exact (hF i (by simpa using hi)).2.2
theorem open_rule {H:Type} {enc:TypeId × Value→H} {W:World} {base:Nat} {v:Value} {d:DataW H} {p:List MemPlace} (hv:Value.okWide Tryz.prog W .any base 30 v) (h:DataW.Trod enc Tryz.prog W 0 (fun _=>true) true 30 v d p) :
  ∃ A n c r,v=.agg #[.slice A n c]∧RuleIs W A n c r∧InRu r:=by
 obtain ⟨cs,rfl,hsz⟩:=okWide_struct Tryz.underlying30 hv
 rw [show Tryz.prog.cellsOf 30=1 by kernel_rfl] at hsz
 obtain ⟨v0,rfl⟩:∃ v0,cs=#[v0]:=by
  obtain ⟨cs⟩:=cs
  match cs,hsz with
  | [v0],_=>exact ⟨v0,rfl⟩
 obtain ⟨fuel,hf⟩:=h
 obtain ⟨y0,n,-,-,h00⟩:=trod_struct1 Tryz.underlying30 hf
 have h0:DataW.trod enc Tryz.prog W 0 (fun _=>true) true n 28 [v0]=some y0:=by
  have h1:DataW.trod enc Tryz.prog W 0 (fun _=>true) true n 28 (List.take (Tryz.prog.cellsOf 28) (List.drop 0 (Value.agg #[v0]).cells.toList))=some y0:=h00
  simpa [Value.cells,show Tryz.prog.cellsOf 28=1 by kernel_rfl] using h1
 obtain ⟨A,k,c,r,rfl,h1,h2⟩:=open_rows1 (enc:=enc) h0
 exact ⟨A,k,c,r,rfl,h1,h2⟩
end Go.Proofs.YtdgleeglndcjhaaGreatDoor
