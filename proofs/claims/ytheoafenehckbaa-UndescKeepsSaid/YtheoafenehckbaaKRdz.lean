/- Arguments that can be read as data, as values of the print's kinds: what is read, its bounds, its bulk. -/
import Derived.Test.YtheoafenehckbaaRows
import Derived.Test.YtheoafenehckbaaKW
import Derived.ProofKit
import Derived.OpenShut
import Derived.ShutString
import Derived.ChangeOld
import Derived.SizedLaws
namespace Go.Proofs.Ytheoafenehckbaa.Rdz
open Go.RowKit YtheoafenehckbaaW.PrintWords
def Opens (P:Program) (n:Nat) (t:TypeId) {α:Type} (d:Kd α) (good len:α→Prop) (sz:α→Nat):Prop:=
 ∀ (H:Type) (enc:TypeId × Value→H) (w:World) (cs:List Value) (x:DataW H × List MemPlace),DataW.trod enc P w 0 (fun _=>true) true n t cs=some x→
  ∃ y:α,d.K w y cs∧good y∧((x.1.weights P t).all (fun q=>decide (q≤reachBytes))=true→len y)∧sz y≤Rows.uptoBulk x.1
section
variable {P:Program} {t e:TypeId} {n:Nat}
theorem opens_int {k:IntKind} (ht:P.underlying t=some (.int k)):Opens P n t (Kd.int k) (fun y=>(Lit.int k y).wf=true) (fun _=>True) (fun _=>1):=by
 intro H enc w cs x h
 obtain ⟨m,rfl,rfl,hw⟩:=DataW.trod_int ht h
 exact ⟨m,rfl,hw,fun _=>trivial,by simp [Rows.uptoBulk]⟩
theorem cells_length {w:World} {a:Addr} {m:Nat} {c:List Value} (h:w.cells? 0 a m=some c):c.length=m:=by
 unfold World.cells? at h
 rw [if_pos (Nat.zero_le _)] at h
 have:=mapM_some_length h
 simpa using this
theorem cells_get {w:World} {a:Addr} {m:Nat} {c:List Value} (h:w.cells? 0 a m=some c) (i:Nat) (u:Value) (hu:c[i]?=some u):w.cell? (a.add i)=some u:=by
 have hi:i < m:=by have:=cells_length h;have:=(List.getElem?_eq_some_iff.1 hu).1;omega
 unfold World.cells? at h
 rw [if_pos (Nat.zero_le _)] at h
 have h2:=mapM_some_get h i i (by simp [hi])
 rw [h2,hu]
theorem weightsAll_all {H:Type} {q:Nat→Bool}:∀ (l:List (DataW H)),(DataW.weightsAll P e l).all q=true→∀ y∈l,(y.weights P e).all q=true
 | [],_,y,hy=>by cases hy
 | d :: r,h,y,hy=>by
  rw [DataW.weightsAll,List.all_append,Bool.and_eq_true] at h
  rcases List.mem_cons.1 hy with rfl|hy
  · exact h.1
  · exact weightsAll_all r h.2 y hy
theorem each_read {α:Type} {d:Kd α} {good len:α→Prop} {sz:α→Nat} {m:Nat} (hd:Opens P m e d good len sz) {H:Type} (enc:TypeId × Value→H) (w:World) (a:Addr) :
 ∀ (elems:List (DataW H × List MemPlace)) (o:Nat),(∀ i,i < elems.length→(w.cells? 0 (a.add ((o+i)*P.cellsOf e)) (P.cellsOf e)).bind (DataW.trod enc P w 0 (fun _=>true) true m e)=elems[i]?)→
  ∃ ys:List α,ys.length=elems.length∧(∀ y∈ys,good y)∧((∀ x∈elems,(x.1.weights P e).all (fun q=>decide (q≤reachBytes))=true)→∀ y∈ys,len y)∧(ys.map sz).sum≤Rows.uptoBulkAll (elems.map (·.1))∧
   ∀ j y,ys[j]?=some y→∃ c,c.length=P.cellsOf e∧d.K w y c∧∀ i u,c[i]?=some u→w.cell? ((a.add ((o+j)*P.cellsOf e)).add i)=some u
 | [],o,_=>⟨[],rfl,fun _ h=>(List.not_mem_nil h).elim,fun _ _ h=>(List.not_mem_nil h).elim,Nat.zero_le _,fun j y h=>(by simp at h)⟩
 | x :: elems,o,h=>by
  have h0:=h 0 (by simp)
  simp only [Nat.add_zero,List.getElem?_cons_zero] at h0
  obtain ⟨c,hc,ht⟩:=Option.bind_eq_some_iff.1 h0
  obtain ⟨y,hK,hg,hl,hs⟩:=hd H enc w c x ht
  obtain ⟨ys,hlen,hgs,hls,hsum,hget⟩:=each_read hd enc w a elems (o+1) (fun i hi=>by
   have:=h (i+1) (by simp only [List.length_cons];omega)
   rw [show o+(i+1)=o+1+i from by omega] at this
   simpa using this)
  refine ⟨y :: ys,by simp [hlen],?_,?_,?_,?_⟩
  · intro z hz
    rcases List.mem_cons.1 hz with rfl|hz
    · exact hg
    · exact hgs z hz
  · intro hw z hz
    rcases List.mem_cons.1 hz with rfl|hz
    · exact hl (hw x (List.mem_cons_self ..))
    · exact hls (fun x' hx'=>hw x' (List.mem_cons_of_mem _ hx')) z hz
  · simp only [List.map_cons,List.sum_cons,Rows.uptoBulkAll]
    omega
  · intro j z hz
    cases j with
    | zero=>
     simp only [List.getElem?_cons_zero,Option.some.injEq] at hz
     subst hz
     exact ⟨c,cells_length hc,hK,fun i u hu=>by rw [Nat.add_zero];exact cells_get hc i u hu⟩
    | succ j=>
     simp only [List.getElem?_cons_succ] at hz
     obtain ⟨c',h1,h2,h3⟩:=hget j z hz
     exact ⟨c',h1,h2,fun i u hu=>by rw [show o+(j+1)=o+1+j from by omega];exact h3 i u hu⟩
theorem opens_slice {α:Type} {d:Kd α} {good len:α→Prop} {sz:α→Nat} (e' b:Nat) (ht:P.underlying t=some (.slice e)) (hsz:P.cellsOf e=d.sz) (hb:P.bytesOf e=b) (hd:∀ m,m < n→Opens P m e d good len sz) :
 Opens P n t (Kd.slice e' d) (fun ys=>ys.length≤maxLen∧∀ y∈ys,good y) (fun ys=>ys.length*b≤reachBytes∧∀ y∈ys,len y) (fun ys=>(ys.map sz).sum+1):=by
 intro H enc w cs x h
 subst hb
 rcases DataW.trod_slice ht h with ⟨rfl,rfl⟩|⟨a,l,cap,elems,rest,m,rfl,rfl,rfl,_,hlc,hcap,hlen,hel,_,_⟩
 · exact ⟨[],⟨none,0,rfl,Nat.le_refl _,Kd.C_nil d w⟩,⟨by simp,fun _ h=>by cases h⟩,fun _=>⟨by simp,fun _ h=>by cases h⟩,by simp [Rows.uptoBulk]⟩
 · subst hlen
   obtain ⟨ys,hl,hg,hls,hsum,hget⟩:=each_read (hd m (by omega)) enc w a elems 0 (fun i hi=>by rw [Nat.zero_add];exact hel i hi)
   refine ⟨ys,⟨some a,cap,by rw [hl],by omega,?_⟩,⟨by omega,hg⟩,fun hw=>?_,?_⟩
   · refine ⟨rfl,by unfold maxLen at hcap;omega,fun _=>⟨a,rfl,fun j y hy=>?_⟩⟩
     obtain ⟨c,h1,h2,h3⟩:=hget j y hy
     refine ⟨c,by rw [h1,hsz],h2,fun i u hu=>?_⟩
     have:=h3 i u hu
     rw [Nat.zero_add,add_add] at this
     rwa [← hsz]
   · simp only [DataW.weights,ht,List.all_cons,Bool.and_eq_true,decide_eq_true_eq,List.all_append] at hw
     refine ⟨?_,hls fun x hx=>weightsAll_all _ hw.2.1 x.1 (List.mem_map_of_mem hx)⟩
     have:=hw.1
     simp only [List.length_map] at this
     rw [hl]
     exact Nat.le_trans (Nat.mul_le_mul_right _ (Nat.le_add_right _ _)) this
   · simp only [Rows.uptoBulk]
     omega
def OpensFs (P:Program) (n:Nat) (fs:List Field) (o:Nat) {α:Type} (d:Kd α) (good len:α→Prop) (sz:α→Nat):Prop:=
 ∀ (H:Type) (enc:TypeId × Value→H) (w:World) (cs:List Value) (xs:List (DataW H × List MemPlace)),cs.length=o+d.sz→xs.length=fs.length→
  (∀ (i:Nat) (f:Field),fs[i]?=some f→DataW.trod enc P w 0 (fun _=>true) true n f.type ((cs.drop f.offset).take (P.cellsOf f.type))=xs[i]?)→
  ∃ y:α,d.K w y (cs.drop o)∧good y∧((DataW.weightsEach P (fs.map (·.type)) (xs.map (·.1))).all (fun q=>decide (q≤reachBytes))=true→len y)∧sz y≤Rows.uptoBulkAll (xs.map (·.1))
end
end Go.Proofs.Ytheoafenehckbaa.Rdz
