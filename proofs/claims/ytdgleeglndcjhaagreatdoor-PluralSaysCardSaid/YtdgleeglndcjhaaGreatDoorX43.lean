import Derived.Test.YtdgleeglndcjhaaGreatDoorX42
import Derived.Test.YtdgleeglndcjhaaGreatDoorRows
import Derived.HandedShaped
import Derived.LaidLaws
import Derived.Shelf.Vars
import Derived.ChangeSame
import Derived.ChangeVars
import Derived.ChangeMaps5
import Derived.JoinedOf
import Derived.RowKit
import Derived.RowKit3
import Derived.RowKitTokens
import Derived.Carry
import Derived.ProofKit
import Derived.Lib.LaidTab
import Derived.Stop.LaidErr
import Derived.Test.YtdgleeglndcjhaaGreatDoorX09
import Derived.Deep.Slices
import Derived.Deep.Strs
set_option linter.constructorNameAsVariable false
set_option linter.unusedVariables false
set_option maxRecDepth 100000
namespace Go
variable {H:Type} {enc:TypeId × Value→H}
theorem returnsInHanded_and_shaped {a:Assume} {C:Checked} {os:Os} {f:FuncId} {fn:Func} {s:ChangeSpec} {conds:List PathCond} {apart fresh handsOn again:Bool} {X:World→Array Value→Prop}
  (hX:∀ (w w':World) (args:Array Value),w.heap=w'.heap→X w args→X w' args)
  (own:ownKnob C.prog.godebug=none) (started:os.Started) (noInit:C.prog.inits.idxOf? f=none) (hfn:C.prog.funcs[f]?=some fn)
  (witness:∃ (w:World) (tape:Tape) (i:Input),w.os=os∧(w.forCall tape i).Shaped C.prog∧i.vars=[]∧Input.okWide C.prog (w.forCall tape i) .any w.heap.size f i ∧
   ((s.pre enc C.prog fn conds apart (w.forCall tape i).memory i.args∧X (w.forCall tape i).memory i.args)∧sizedMet enc C.prog fn (OpenSpec.ofChange s) apart (w.forCall tape i).memory i.args)∧a.holds C.prog (lone (Frame.enter C.prog f i.args .normal) [] (w.forCall tape i)))
  (contract:∀ (W:World) (base:Nat) (args:Array Value) (ds gs:List (DataW H)) (before:List MemPlace),
   (∀ (j:Nat) t v,fn.params[j]?=some t→args[j]?=some v→Value.okWide C.prog W .any base t v) →
   DataW.Whole enc C.prog fn.params.toList s.vars apart W args.toList ds gs before →
   X W args→W.ShapedOpen C.prog →
   Calls C.prog f args W fun e W'=>∃ v,e=.returned v∧s.post enc C.prog fn apart fresh handsOn again W args v W') :
  ReturnsInHanded a C os f .any (fun w args=>(s.pre enc C.prog fn conds apart w args∧X w args)∧sizedMet enc C.prog fn (OpenSpec.ofChange s) apart w args) (s.post enc C.prog fn apart fresh handsOn again):=by
 refine returnsInHanded_of_calls own started noInit witness ?_;intro w tape i _ hsh _ hok hpre hholds;obtain ⟨_,_,_,fn',hfn',_,_,_,_,hval⟩:=hok;have e:fn'=fn:=Option.some.inj (hfn'.symm.trans hfn);subst e;obtain ⟨⟨⟨ds,gs,before,hw,hc⟩,hx⟩,hz⟩:=hpre;have hw':=DataW.Whole.of_heap (w':=w.forCall tape i) (by rfl) hw;refine (contract (w.forCall tape i) w.heap.size i.args ds gs before hval hw' (hX _ _ _ (by rfl) hx) hsh).mono fun e W' ⟨v,he,hp⟩=>?_;subst he;exact ChangeSpec.post_blind hp
end Go
namespace Go.Proofs.YtdgleeglndcjhaaGreatDoor
open Go.ChangeShapes Go.WideShapes Go.ChangeAt Go.RowKit
open Go.ChangeMaps (open_string shut_string)
theorem Tryz.own:ownKnob Tryz.prog.godebug=none:=by kernel_rfl
theorem Tryz.laidOut:laidOutB Tryz.prog=true:=by kernel_rfl
def laidL:List (String × DataW Unit):=Rows.ruleNotRow.laid
mutual
def flatD:DataW Unit→List Value
 | .lit (.int k n)=>[.int k n]
 | .agg ds=>flatDs ds
 | _=>[]
def flatDs:List (DataW Unit)→List Value
 | []=>[]
 | d :: ds=>flatD d ++ flatDs ds
end
abbrev rangeS:ByteArray:={ data:=#[118,97,108,117,101,32,111,117,116,32,111,102,32,114,97,110,103,101] }
abbrev synS:ByteArray:={ data:=#[105,110,118,97,108,105,100,32,115,121,110,116,97,120] }
noncomputable def low:Nat:=(World.holding Tryz.prog default ⟨#[],#[],[]⟩).heap.size
def layAt (g:Nat) (cs:List Value) (h:Array Obj):Array Obj:=h.modify g fun
 | .cells _ t frozen=>.cells cs.toArray t frozen
 | o=>o
noncomputable def laidWorld (os:Os):World :=
 let w0:=World.holding Tryz.prog os ⟨#[.cells #[.string rangeS] 308,.cells #[.string synS] 308],#[],[]⟩
 { w0 with heap:=layAt 1 (flatD Rows.laid_unicode_utf8_first) (layAt 2 (flatD Rows.laid_unicode_utf8_acceptRanges) (layAt 3 [.iface 306 (.pointer (some ⟨low+1,0,none⟩))] (layAt 4 [.iface 306 (.pointer (some ⟨low,0,none⟩))]
   (layAt 5 (flatD Rows.laid_internal_strconv_uint64pow10) (layAt 6 (flatD Rows.laid_math_bits_deBruijn32tab) (layAt 7 (flatD Rows.laid_math_bits_deBruijn64tab) w0.heap)))))) }
theorem laidWorld_met (os:Os) (args:Array Value):laidMet Tryz.prog laidL ((laidWorld os).forCall (fun _ _=>0) ⟨#[],args,[]⟩).memory :=
 laidMet_of_run' 8 (by kernel_rfl) (by kernel_rfl)
open Go.ChangeMaps (open_string shut_string)
theorem maxLen_row:(((begin Tryz.prog (fun _ _=>0) default).world.heap[0]?).bind Obj.row?)=some (#[.int .i64 0],3):=by kernel_rfl
theorem gw_of {W:World} (h:W.ShapedOpen Tryz.prog) (hL:laidMet Tryz.prog laidL W):GW W:=by
 refine ⟨cell_of_shapedOpen_int h (of_decide_eq_true (by kernel_rfl)) maxLen_row rfl (by kernel_rfl) (by kernel_rfl) Tryz.underlying3,?_⟩;exact Lib.tabIs_of_head pow10_named (t:=309) (e:=50) (n:=20) (by kernel_rfl) (by kernel_rfl) Tryz.underlying50 (by kernel_rfl) (by kernel_rfl) (hL.tail.tail)
theorem open_words {H:Type} {enc:TypeId × Value→H} {W:World} {n:Nat} {v:Value} {y:DataW H × List MemPlace} (h:DataW.trod enc Tryz.prog W 0 (fun _=>true) true n 22 [v]=some y) :
  ∃ A k c l,v=.slice A k c∧RL W (.slice A k c) l:=by
 rcases open_ints Tryz.underlying22 Tryz.underlying43 (by kernel_rfl) h with ⟨hcs,-⟩|⟨a,len,cap,zs,hcs,-,hl,-,hz,-,hcell,hwz⟩
 ·obtain rfl:v=.slice none 0 0:=by simpa using hcs
  exact ⟨none,0,0,[],rfl,SlC.nil _ _ _ _,Wd.nil⟩
 ·obtain rfl:v=.slice (some a) len cap:=by simpa using hcs
  rw [if_pos rfl] at hz
  have wz:∀ z ∈ zs,0≤z∧z<4294967296:=fun z h=>by
   have h5:=hwz z h;have e1:IntKind.u32.min=0:=rfl;have e2:IntKind.u32.max=4294967295:=rfl;simp only [Lit.wf,e1,e2,Bool.and_eq_true,decide_eq_true_eq] at h5;omega
  refine ⟨some a,len,cap,(zs.take len).map Int.toNat,rfl,?_,?_⟩
  ·have hlen:((zs.take len).map Int.toNat).length=len:=by simp;omega
   rw [hlen];refine ⟨some a,cap,rfl,hl,by simp [U32];omega,fun hp=>?_⟩;obtain ⟨b,off,spot⟩:=a
   have hspot:spot=none:=by
    have hz0:0<zs.length:=by
     simp [U32] at hp;rcases Nat.eq_zero_or_pos zs.length with h0|h0
     ·omega
     ·exact h0
    simpa [Addr.add] using World.cell?_spot (hcell 0 hz0)
   subst hspot;refine ⟨b,off,rfl,fun j x hx=>?_⟩;simp only [U32,List.map_map,List.getElem?_map,Option.map_eq_some_iff,Function.comp] at hx;obtain ⟨z,hz1,rfl⟩:=hx;have hj:j<(zs.take len).length:=(List.getElem?_eq_some_iff.1 hz1).1;have hj2:j<zs.length:=by rw [List.length_take] at hj;omega
   have hzj:zs[j]?=some z:=by
    rw [List.getElem?_take] at hz1;split at hz1
    ·exact hz1
    ·cases hz1
   have:=hcell j hj2;rw [← add_plain,this,List.getD_eq_getElem?_getD,hzj];have:=wz z (List.mem_of_getElem? hzj);simp [Int.toNat_of_nonneg this.1]
  ·intro x hx;obtain ⟨z,hz1,rfl⟩:=List.mem_map.1 hx;have:=wz z (List.mem_of_mem_take hz1);omega
theorem open_dec {H:Type} {enc:TypeId × Value→H} {W:World} {base:Nat} {v:Value} {d:DataW H} {p:List MemPlace} (hv:Value.okWide Tryz.prog W .any base 26 v) (h:DataW.Trod enc Tryz.prog W 0 (fun _=>true) true 26 v d p) :
  ∃ b A n c l sc,v=.agg #[.bool b,.slice A n c,.int .i64 sc]∧RL W (.slice A n c) l:=by
 obtain ⟨v0,v1,v2,y0,y1,y2,n,rfl,-,-,h0,h1,h2⟩:=Joins.open_agg3 Tryz.underlying26 (by kernel_rfl) (by kernel_rfl) hv h
 obtain ⟨b,rfl⟩:∃ b,v0=.bool b:=by
  obtain ⟨b,hb,-⟩:=DataW.trod_bool Tryz.underlying4 h0;exact ⟨b,by simpa using hb⟩
 obtain ⟨z,rfl⟩:∃ z,v2=.int .i64 z:=by
  obtain ⟨z,hz,-⟩:=DataW.trod_int Tryz.underlying3 h2;exact ⟨z,by simpa using hz⟩
 obtain ⟨xs,m,hn,-,-,hlen,hf⟩:=DataW.trod_struct Tryz.underlying24 h1
 match xs,hlen with
 | [y],_ =>
  have h3:=hf 0 _ rfl;obtain ⟨A,k,c,l,rfl,hl⟩:=open_words (enc:=enc) (n:=m) (v:=v1) (y:=y) (by simpa [show Tryz.prog.cellsOf 22=1 by kernel_rfl] using h3);exact ⟨b,A,k,c,l,z,rfl,hl⟩
end Go.Proofs.YtdgleeglndcjhaaGreatDoor
namespace Go.Proofs.YtdgleeglndcjhaaGreatDoor
open Go.ChangeShapes Go.WideShapes Go.ChangeAt Go.RowKit Go.Deep
theorem spot_of_cell {W:World} {a:Addr} {u:Value} (h:W.cell? a=some u):a=⟨a.block,a.off,none⟩:=by
 obtain ⟨b,o,s⟩:=a;have:s=none:=by simpa using World.cell?_spot h
 rw [this]
theorem open_texts {H:Type} {enc:TypeId × Value→H} {W:World} {n:Nat} {v:Value} {y:DataW H × List MemPlace} (h:DataW.trod enc Tryz.prog W 0 (fun _=>true) true n 54 [v]=some y) :
  ∃ A k c ws,v=.slice A k c∧StrsAre W A k c ws:=by
 rcases open_strs Tryz.underlying54 Tryz.underlying9 (by kernel_rfl) h with ⟨hcs,-⟩|⟨a,len,cap,m,Sx,hcs,-,hl,-,hm,-,hc⟩
 ·obtain rfl:v=.slice none 0 0:=by simpa using hcs
  exact ⟨none,0,0,[],rfl,SlC.nil _ _ _ _⟩
 ·obtain rfl:v=.slice (some a) len cap:=by simpa using hcs
  rw [if_pos rfl] at hm;refine ⟨some a,len,cap,(List.range len).map fun i=>(Sx i).data.toList,rfl,?_⟩;have hlen:((List.range len).map fun i=>(Sx i).data.toList).length=len:=by simp
  refine ⟨some a,cap,by rw [hlen],by rw [hlen];exact hl,by simp,fun hp=>?_⟩;have h0:0<len:=by simpa using hp
  obtain ⟨hc0,-⟩:=hc 0 (by omega)
  have hsp:a=⟨a.block,a.off,none⟩:=by
   have:=spot_of_cell hc0;simpa [Addr.add] using this
  refine ⟨a.block,a.off,by rw [← hsp],fun j x hx=>?_⟩;simp only [List.map_map,List.getElem?_map,Option.map_eq_some_iff,Function.comp] at hx;obtain ⟨i,hi,rfl⟩:=hx;rw [List.getElem?_eq_some_iff] at hi;obtain ⟨hi1,hi2⟩:=hi;have hjl:j<len:=by simpa using hi1
  obtain rfl:j=i:=by simpa using hi2
  have:=(hc j (by omega)).1;rw [hsp,add_plain] at this;rw [this]
theorem cells_two {W:World} {a:Addr} {cs:List Value} (h:W.cells? 0 a 2=some cs):∃ x y,cs=[x,y]∧W.cell? a=some x∧W.cell? (a.add 1)=some y:=by
 obtain ⟨-,hl,hc⟩:=World.cells?_some h
 match cs,hl with
 | [x,y],_ =>
  have h0:=hc 0 (by omega);have h1:=hc 1 (by omega);exact ⟨x,y,rfl,by simpa [Addr.add] using h0,by simpa using h1⟩
theorem open_rows {H:Type} {enc:TypeId × Value→H} {W:World} {n:Nat} {v:Value} {y:DataW H × List MemPlace} (h:DataW.trod enc Tryz.prog W 0 (fun _=>true) true n 82 [v]=some y) :
  ∃ A k c L,v=.slice A k c∧RowsIs W A k c L:=by
 rcases open_slice Tryz.underlying82 h with ⟨hcs,-⟩|⟨a,len,cap,m,n',D,Pl,hcs,-,hl,-,hm,-,hc⟩
 ·obtain rfl:v=.slice none 0 0:=by simpa using hcs
  exact ⟨none,0,0,[],rfl,[],rfl,SlC.nil _ _ _ _,fun e he=>by cases he⟩
 ·obtain rfl:v=.slice (some a) len cap:=by simpa using hcs
  rw [if_pos rfl] at hm
  have each:∀ i,i<len→∃ e:Re,W.cell? (a.add (i * 2))=some (.int .i64 e.1)∧W.cell? ((a.add (i * 2)).add 1)=some e.2.2∧∃ A n c,e.2.2=.slice A n c∧StrsAre W A n c e.2.1:=fun i hi=>by
   obtain ⟨cs',h1,h2⟩:=hc i (by omega);rw [show Tryz.prog.cellsOf 132=2 by kernel_rfl] at h1;obtain ⟨x,y,rfl,h3,h4⟩:=cells_two h1;obtain ⟨y0,y1,n2,-,-,h5,h6⟩:=trod_struct2 Tryz.underlying132 h2;rw [show Tryz.prog.cellsOf 3=1 by kernel_rfl] at h5;rw [show Tryz.prog.cellsOf 54=1 by kernel_rfl] at h6;obtain ⟨z,hz,-⟩:=DataW.trod_int Tryz.underlying3 h5;obtain rfl:x=.int .i64 z:=by simpa using hz
   obtain ⟨A,k,c,ws,hv,hS⟩:=open_texts (enc:=enc) (n:=n2) (v:=y) (by simpa using h6);exact ⟨(z,ws,y),h3,h4,A,k,c,hv,hS⟩
  have hne:Nonempty Re:=⟨(0,[],.slice none 0 0)⟩
  obtain ⟨F,hF⟩:∃ F:Nat→Re,∀ i,i<len→W.cell? (a.add (i * 2))=some (.int .i64 (F i).1)∧W.cell? ((a.add (i * 2)).add 1)=some (F i).2.2∧∃ A n c,(F i).2.2=.slice A n c∧StrsAre W A n c (F i).2.1:=by
   haveI:Inhabited Re:=⟨(0,[],.slice none 0 0)⟩
   exact choose_lt each
  refine ⟨some a,len,cap,((List.range len).map F).map rrow,rfl,(List.range len).map F,rfl,?_,fun e he=>?_⟩
  ·have hlen:((List.range len).map F).length=len:=by simp
   refine ⟨some a,cap,by rw [hlen],by rw [hlen];exact hl,by rw [cells2_len];simp,fun hp=>?_⟩;have h0:0<len:=by rw [cells2_len] at hp;simp at hp;omega
   have hsp:a=⟨a.block,a.off,none⟩:=by
    have:=spot_of_cell (hF 0 h0).1;simpa [Addr.add] using this
   refine ⟨a.block,a.off,by rw [← hsp],fun j x hx=>?_⟩
   have hjl:j<len * 2:=by
    obtain ⟨hj,-⟩:=List.getElem?_eq_some_iff.1 hx;rw [cells2_len] at hj;simpa using hj
   have hat:=cells2_at (((List.range len).map F).map rcell) (j / 2) (rcell (F (j / 2))) (by
    rw [List.getElem?_map,List.getElem?_map,List.getElem?_range (by omega)];rfl)
   obtain ⟨f1,f2,-⟩:=hF (j / 2) (by omega);rw [hsp,add_plain] at f1 f2;rw [add_plain] at f2;rcases Nat.mod_two_eq_zero_or_one j with e|e
   ·have ej:j=j / 2 * 2:=by omega
    rw [ej,hat.1] at hx;cases hx
    rw [show a.off+j=a.off+j / 2 * 2 by omega,f1];rfl
   ·have ej:j=j / 2 * 2+1:=by omega
    rw [ej,hat.2] at hx;cases hx
    rw [show a.off+j=a.off+j / 2 * 2+1 by omega,f2];rfl
  ·obtain ⟨i,hi,rfl⟩:=List.mem_map.1 he;exact (hF i (by simpa using hi)).2.2
end Go.Proofs.YtdgleeglndcjhaaGreatDoor
