/- Arguments that can be read as data, as values of the print's kinds: what is read, its bounds, its bulk. -/
import Derived.Test.YtheoafenehckbaaRows
import Derived.Test.YtheoafenehckbaaQW
import Derived.ProofKit
import Derived.OpenShut
import Derived.ShutString
import Derived.ChangeOld
import Derived.SizedLaws
namespace Go.Proofs.Ytheoafenehckbaa.Rdz
open Go.RowKit YtheoafenehckbaaW.PrintWords
def Opens (P:Program) (n:Nat) (t:TypeId) {α:Type} (d:Kd α) (good len:α→Prop) (sz:α→Nat):Prop:=
 ∀ (H:Type) (enc:TypeId × Value→H) (w:World) (cs:List Value) (x:DataW H × List MemPlace),DataW.trod enc P w 0 (fun _=>true) true n t cs=some x→
  ∃ y:α,d.K w y cs∧good y∧((x.1.weights P t).all (fun q=>decide (q≤reachBytes))=true→len y)∧sz y≤Rows.uptoBulk x.1
section
variable {P:Program} {t e:TypeId} {n:Nat}
theorem opens_int {k:IntKind} (ht:P.underlying t=some (.int k)):Opens P n t (Kd.int k) (fun y=>(Lit.int k y).wf=true) (fun _=>True) (fun _=>1):=by
 intro H enc w cs x h
 obtain ⟨m,rfl,rfl,hw⟩:=DataW.trod_int ht h
 exact ⟨m,rfl,hw,fun _=>trivial,by simp [Rows.uptoBulk]⟩
theorem opens_bool (ht:P.underlying t=some .bool):Opens P n t Kd.bool (fun _=>True) (fun _=>True) (fun _=>1):=by
 intro H enc w cs x h
 obtain ⟨m,rfl,rfl⟩:=DataW.trod_bool ht h
 exact ⟨m,rfl,trivial,fun _=>trivial,by simp [Rows.uptoBulk]⟩
theorem opens_string (ht:P.underlying t=some .string):Opens P n t Kd.string (fun s=>s.size≤maxLen) (fun s=>s.size≤reachBytes) (fun s=>s.size+1):=by
 intro H enc w cs x h
 obtain ⟨s,rfl,rfl,hs⟩:=DataW.trod_string ht h
 refine ⟨s,rfl,hs,fun hw=>?_,?_⟩
 · have h1:=of_decide_eq_true (List.all_eq_true.1 hw s.data.toList.length (by simp only [DataW.weights];exact List.mem_singleton_self _))
   rwa [Array.length_toList] at h1
 · simp only [Rows.uptoBulk,Array.length_toList]
   exact Nat.le_refl _
theorem cells_length {w:World} {a:Addr} {m:Nat} {c:List Value} (h:w.cells? 0 a m=some c):c.length=m:=by
 unfold World.cells? at h
 rw [if_pos (Nat.zero_le _)] at h
 have:=mapM_some_length h
 simpa using this
theorem cells_get {w:World} {a:Addr} {m:Nat} {c:List Value} (h:w.cells? 0 a m=some c) (i:Nat) (u:Value) (hu:c[i]?=some u):w.cell? (a.add i)=some u:=by
 have hi:i < m:=by have:=cells_length h;have:=(List.getElem?_eq_some_iff.1 hu).1;omega
 unfold World.cells? at h
 rw [if_pos (Nat.zero_le _)] at h
 have h2:=mapM_some_get h i i (by simp [hi])
 rw [h2,hu]
theorem weightsAll_all {H:Type} {q:Nat→Bool}:∀ (l:List (DataW H)),(DataW.weightsAll P e l).all q=true→∀ y∈l,(y.weights P e).all q=true
 | [],_,y,hy=>by cases hy
 | d :: r,h,y,hy=>by
  rw [DataW.weightsAll,List.all_append,Bool.and_eq_true] at h
  rcases List.mem_cons.1 hy with rfl|hy
  · exact h.1
  · exact weightsAll_all r h.2 y hy
theorem each_read {α:Type} {d:Kd α} {good len:α→Prop} {sz:α→Nat} {m:Nat} (hd:Opens P m e d good len sz) {H:Type} (enc:TypeId × Value→H) (w:World) (a:Addr) :
 ∀ (elems:List (DataW H × List MemPlace)) (o:Nat),(∀ i,i < elems.length→(w.cells? 0 (a.add ((o+i)*P.cellsOf e)) (P.cellsOf e)).bind (DataW.trod enc P w 0 (fun _=>true) true m e)=elems[i]?)→
  ∃ ys:List α,ys.length=elems.length∧(∀ y∈ys,good y)∧((∀ x∈elems,(x.1.weights P e).all (fun q=>decide (q≤reachBytes))=true)→∀ y∈ys,len y)∧(ys.map sz).sum≤Rows.uptoBulkAll (elems.map (·.1))∧
   ∀ j y,ys[j]?=some y→∃ c,c.length=P.cellsOf e∧d.K w y c∧∀ i u,c[i]?=some u→w.cell? ((a.add ((o+j)*P.cellsOf e)).add i)=some u
 | [],o,_=>⟨[],rfl,fun _ h=>(List.not_mem_nil h).elim,fun _ _ h=>(List.not_mem_nil h).elim,Nat.zero_le _,fun j y h=>(by simp at h)⟩
 | x :: elems,o,h=>by
  have h0:=h 0 (by simp)
  simp only [Nat.add_zero,List.getElem?_cons_zero] at h0
  obtain ⟨c,hc,ht⟩:=Option.bind_eq_some_iff.1 h0
  obtain ⟨y,hK,hg,hl,hs⟩:=hd H enc w c x ht
  obtain ⟨ys,hlen,hgs,hls,hsum,hget⟩:=each_read hd enc w a elems (o+1) (fun i hi=>by
   have:=h (i+1) (by simp only [List.length_cons];omega)
   rw [show o+(i+1)=o+1+i from by omega] at this
   simpa using this)
  refine ⟨y :: ys,by simp [hlen],?_,?_,?_,?_⟩
  · intro z hz
    rcases List.mem_cons.1 hz with rfl|hz
    · exact hg
    · exact hgs z hz
  · intro hw z hz
    rcases List.mem_cons.1 hz with rfl|hz
    · exact hl (hw x (List.mem_cons_self ..))
    · exact hls (fun x' hx'=>hw x' (List.mem_cons_of_mem _ hx')) z hz
  · simp only [List.map_cons,List.sum_cons,Rows.uptoBulkAll]
    omega
  · intro j z hz
    cases j with
    | zero=>
     simp only [List.getElem?_cons_zero,Option.some.injEq] at hz
     subst hz
     exact ⟨c,cells_length hc,hK,fun i u hu=>by rw [Nat.add_zero];exact cells_get hc i u hu⟩
    | succ j=>
     simp only [List.getElem?_cons_succ] at hz
     obtain ⟨c',h1,h2,h3⟩:=hget j z hz
     exact ⟨c',h1,h2,fun i u hu=>by rw [show o+(j+1)=o+1+j from by omega];exact h3 i u hu⟩
theorem jk7 {α:Type} {d:Kd α} {good len:α→Prop} {sz:α→Nat} (e' b:Nat) (ht:P.underlying t=some (.slice e)) (hsz:P.cellsOf e=d.sz) (hb:P.bytesOf e=b) (hd:∀ m,m < n→Opens P m e d good len sz) :
 Opens P n t (Kd.slice e' d) (fun ys=>ys.length≤maxLen∧∀ y∈ys,good y) (fun ys=>ys.length*b≤reachBytes∧∀ y∈ys,len y) (fun ys=>(ys.map sz).sum+1):=by
 intro H enc w cs x h
 subst hb
 rcases DataW.trod_slice ht h with ⟨rfl,rfl⟩|⟨a,l,cap,elems,rest,m,rfl,rfl,rfl,_,hlc,hcap,hlen,hel,_,_⟩
 · exact ⟨[],⟨none,0,rfl,Nat.le_refl _,Kd.C_nil d w⟩,⟨by simp,fun _ h=>by cases h⟩,fun _=>⟨by simp,fun _ h=>by cases h⟩,by simp [Rows.uptoBulk]⟩
 · subst hlen
   obtain ⟨ys,hl,hg,hls,hsum,hget⟩:=each_read (hd m (by omega)) enc w a elems 0 (fun i hi=>by rw [Nat.zero_add];exact hel i hi)
   refine ⟨ys,⟨some a,cap,by rw [hl],by omega,?_⟩,⟨by omega,hg⟩,fun hw=>?_,?_⟩
   · refine ⟨rfl,by unfold maxLen at hcap;omega,fun _=>⟨a,rfl,fun j y hy=>?_⟩⟩
     obtain ⟨c,h1,h2,h3⟩:=hget j y hy
     refine ⟨c,by rw [h1,hsz],h2,fun i u hu=>?_⟩
     have:=h3 i u hu
     rw [Nat.zero_add,add_add] at this
     rwa [← hsz]
   · simp only [DataW.weights,ht,List.all_cons,Bool.and_eq_true,decide_eq_true_eq,List.all_append] at hw
     refine ⟨?_,hls fun x hx=>weightsAll_all _ hw.2.1 x.1 (List.mem_map_of_mem hx)⟩
     have:=hw.1
     simp only [List.length_map] at this
     rw [hl]
     exact Nat.le_trans (Nat.mul_le_mul_right _ (Nat.le_add_right _ _)) this
   · simp only [Rows.uptoBulk]
     omega
theorem opens_mono {α:Type} {d d':Kd α} {good len good' len':α→Prop} {sz sz':α→Nat} (h:Opens P n t d good len sz) (hK:∀ w y cs,d.K w y cs→d'.K w y cs) (hg:∀ y,good y→good' y) (hl:∀ y,len y→len' y) (hs:∀ y,sz' y≤sz y):Opens P n t d' good' len' sz':=by
 intro H enc w cs x hx
 obtain ⟨y,h1,h2,h3,h4⟩:=h H enc w cs x hx
 exact ⟨y,hK _ _ _ h1,hg _ h2,fun hw=>hl _ (h3 hw),Nat.le_trans (hs y) h4⟩
def OpensFs (P:Program) (n:Nat) (fs:List Field) (o:Nat) {α:Type} (d:Kd α) (good len:α→Prop) (sz:α→Nat):Prop:=
 ∀ (H:Type) (enc:TypeId × Value→H) (w:World) (cs:List Value) (xs:List (DataW H × List MemPlace)),cs.length=o+d.sz→xs.length=fs.length→
  (∀ (i:Nat) (f:Field),fs[i]?=some f→DataW.trod enc P w 0 (fun _=>true) true n f.type ((cs.drop f.offset).take (P.cellsOf f.type))=xs[i]?)→
  ∃ y:α,d.K w y (cs.drop o)∧good y∧((DataW.weightsEach P (fs.map (·.type)) (xs.map (·.1))).all (fun q=>decide (q≤reachBytes))=true→len y)∧sz y≤Rows.uptoBulkAll (xs.map (·.1))
theorem opensFs_one {α:Type} {d:Kd α} {good len:α→Prop} {sz:α→Nat} {f:Field} {o:Nat} (ho:f.offset=o) (hsz:P.cellsOf f.type=d.sz) (hd:Opens P n f.type d good len sz):OpensFs P n [f] o d good len sz:=by
 intro H enc w cs xs hl hx h
 subst ho
 match xs,hx with
 | [x],_=>
  have h0:=h 0 f rfl
  simp only [List.getElem?_cons_zero] at h0
  rw [List.take_of_length_le (by rw [List.length_drop];omega)] at h0
  obtain ⟨y,h1,h2,h3,h4⟩:=hd H enc w _ x h0
  refine ⟨y,h1,h2,fun hw=>h3 ?_,by simp only [List.map_cons,List.map_nil,Rows.uptoBulkAll];omega⟩
  simpa [DataW.weightsEach] using hw
theorem jk {α β:Type} {d:Kd α} {d2:Kd β} {good len:α→Prop} {sz:α→Nat} {good2 len2:β→Prop} {sz2:β→Nat} {f:Field} {fs:List Field} {o:Nat} (ho:f.offset=o) (hsz:P.cellsOf f.type=d.sz)
 (hd:Opens P n f.type d good len sz) (hfs:OpensFs P n fs (o+d.sz) d2 good2 len2 sz2) :
 OpensFs P n (f :: fs) o (Kd.pair d d2) (fun y=>good y.1∧good2 y.2) (fun y=>len y.1∧len2 y.2) (fun y=>sz y.1+sz2 y.2):=by
 intro H enc w cs xs hl hx h
 subst ho
 have hl':cs.length=f.offset+(d.sz+d2.sz):=hl
 match xs,hx with
 | x :: xs,hx=>
  have h0:=h 0 f rfl
  simp only [List.getElem?_cons_zero] at h0
  obtain ⟨y,h1,h2,h3,h4⟩:=hd H enc w _ x h0
  obtain ⟨z,k1,k2,k3,k4⟩:=hfs H enc w cs xs (by omega) (by simpa using hx) (fun i f' hf=>by
   have:=h (i+1) f' (by simpa using hf)
   simpa using this)
  refine ⟨(y,z),⟨_,_,?_,h1,k1⟩,⟨h2,k2⟩,fun hw=>?_,by simp only [List.map_cons,Rows.uptoBulkAll];omega⟩
  · rw [hsz,← List.drop_drop,List.take_append_drop]
  · simp only [List.map_cons,DataW.weightsEach,List.all_append,Bool.and_eq_true] at hw
    exact ⟨h3 hw.1,k3 hw.2⟩
theorem opens_struct {α β:Type} {d:Kd α} {good len:α→Prop} {sz:α→Nat} {fs:Array Field} (g:β→α) (mk:α→β) (hmk:∀ y,g (mk y)=y) (ht:P.underlying t=some (.struct fs)) (hsz:P.cellsOf t=d.sz)
 (hd:∀ m,m < n→OpensFs P m fs.toList 0 d good len sz):Opens P n t (Kd.iso d g) (fun y=>good (g y)) (fun y=>len (g y)) (fun y=>sz (g y)+1):=by
 intro H enc w cs x h
 obtain ⟨xs,m,rfl,rfl,hl,hlen,hf⟩:=DataW.trod_struct ht h
 obtain ⟨y,h1,h2,h3,h4⟩:=hd m (by omega) H enc w cs xs (by omega) (by simpa using hlen) (fun i f hi=>hf i f (by simpa using hi))
 refine ⟨mk y,?_,show good (g (mk y)) from by rw [hmk];exact h2,fun hw=>?_,?_⟩
 · show d.K w (g (mk y)) cs
   rw [hmk]
   simpa using h1
 · show len (g (mk y))
   rw [hmk]
   refine h3 ?_
   simp only [DataW.weights,ht] at hw
   exact hw
 · show sz (g (mk y))+1≤_
   rw [hmk]
   simp only [Rows.uptoBulk]
   omega
end
end Go.Proofs.Ytheoafenehckbaa.Rdz
