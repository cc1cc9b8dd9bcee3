/- A struct is loaded whole out of a row; an element of a row taken into a box. -/
import Derived.Test.YtheoafenehckbaaQHb
import Derived.Test.YtheoafenehckbaaQSw
import Derived.Test.YtheoafenehckbaaQSh
namespace Go.Proofs.Ytheoafenehckbaa.Ur
open Go.RowKit YtheoafenehckbaaW.PrintWords YtheoafenehckbaaW.PrintLast YtheoafenehckbaaW.PrintMore
set_option linter.unusedVariables false
section
variable {P:Program} {ops:Array Oper} {rest:List Oper} {o:Oper} {a:Act} {Q:Exit→Act→World→Prop} {W:World}
theorem run_load_cells (w:World) (a0:Addr) (ty:TypeId) (cs:List Value) (d:TypeDesc) (hc:∀ j u,cs[j]?=some u→w.cell? (a0.add j)=some u)
 (hu:P.underlying ty=some d) (hd:(match d with | .struct _ | .array _ _=>true|_=>false)=true) (hi:(P.info? ty).map (·.size)=some cs.length) :
 (loadVar ty a0).run P w = .ok (.agg cs.toArray) w:=by
 have hl:(loadCells a0 cs.length).run P w = .ok cs.toArray w:=run_loadCells_list (P:=P) w a0 cs hc
 cases hq:P.info? ty with
 | none=>simp [hq] at hi
 | some i=>
  have hs:i.size=cs.length:=by simpa [hq] using hi
  have hagg:(isAgg ty).run P w = .ok true w:=by
   unfold isAgg
   rw [Sem.run_bind,run_underlying hu w]
   cases d <;> simp_all
  simp [loadVar,Sem.run_bind,hagg,sizeOf,typeInfo,hq,hs,hl]
theorem load_cells (hgd:o.guard=none) (ty:TypeId) (x:Operand) (ho:o.op = .load ty x) (a0:Addr) (hx:a.eval x = .pointer (some a0)) (cs:List Value) (d:TypeDesc) (hc:∀ j u,cs[j]?=some u→W.cell? (a0.add j)=some u)
 (hu:P.underlying ty=some d) (hd:(match d with | .struct _ | .array _ _=>true|_=>false)=true) (hi:(P.info? ty).map (·.size)=some cs.length)
 (h:wpList P ops Q rest (a.put o.dst (.agg cs.toArray)) W):wpList P ops Q (o :: rest) a W:=
 wpList_plain hgd fun K hK=>by
  unfold Oper.wp execOp
  simp only [ho,hx,Instr.loadAt,Instr.sureAddr,Sem.run_bind,Sem.run_pure,Result.andThen_ok,run_load_cells W a0 ty cs d hc hu hd hi]
  exact hK _ _ h
theorem load_box (ty:TypeId) (p:Tmp) (g:Nat) (cs:Array Value) (d:TypeDesc) (hg:W.heap[g]?=some (.cells cs ty (0,0))) (hu:P.underlying ty=some d)
 (h:wpList P ops Q rest (a.put o.dst (.agg cs)) W) (ho:o.op = .load ty (.tmp p):=by exact rfl) (hx:a.eval (.tmp p) = .pointer (some ⟨g,0,none⟩):=by exact rfl) (hgd:o.guard=none:=by exact rfl)
 (hd:(match d with | .struct _ | .array _ _=>true|_=>false)=true:=by exact rfl) (hi:(P.info? ty).map (·.size)=some cs.size:=by kernel_rfl):wpList P ops Q (o :: rest) a W:=
 wpList_load_row hgd ty (.tmp p) ho g hx ty cs (0,0) d hg hu hd hi h
theorem load_elem (ty:TypeId) (p:Tmp) (a0:Addr) (m:Nat) (cs:List Value) (d:TypeDesc) (hc:∀ j u,cs[j]?=some u→W.cell? (a0.add (m+j))=some u) (hu:P.underlying ty=some d)
 (h:wpList P ops Q rest (a.put o.dst (.agg cs.toArray)) W) (ho:o.op = .load ty (.tmp p):=by exact rfl) (hx:a.eval (.tmp p) = .pointer (some (a0.add m)):=by exact rfl) (hgd:o.guard=none:=by exact rfl)
 (hd:(match d with | .struct _ | .array _ _=>true|_=>false)=true:=by exact rfl) (hi:(P.info? ty).map (·.size)=some cs.length:=by kernel_rfl):wpList P ops Q (o :: rest) a W:=
 load_cells hgd ty (.tmp p) ho (a0.add m) hx cs d (fun j u hj=>by rw [add_add];exact hc j u hj) hu hd hi h
theorem gate_load {ty:TypeId} {p:Tmp} (_ho:o.op = .load ty (.tmp p)) (h:wpList P ops Q (o :: rest) a W):wpList P ops Q (o :: rest) a W:=h
theorem store_box (ty:TypeId) (p x:Tmp) (g:Nat) (cells:Array Value) {old:Array Value} (hb:W.heap[g]?=some (.cells old ty (0,0)))
 (h:∀ w',w'.heap[g]?=some (.cells cells ty (0,0))→(∀ B w0,B≤g→Below B w0 W→Below B w0 w')→(∀ k,k≠g→w'.heap[k]?=W.heap[k]?)→wpList P ops Q rest a w')
 (ho:o.op = .store ty (.tmp p) (.tmp x):=by exact rfl) (hp:a.eval (.tmp p) = .pointer (some ⟨g,0,none⟩):=by exact rfl) (hv:a.eval (.tmp x) = .agg cells:=by exact rfl) (hi:(P.info? ty).map (·.size)=some cells.size:=by kernel_rfl) (hs:old.size=cells.size:=by exact rfl) (h1:cells.toList.all (·.oneCell')=true:=by exact rfl)
 (hgd:o.guard=none:=by exact rfl) (hN:o.dst=none:=by exact rfl):wpList P ops Q (o :: rest) a W:=
 Sw.store_whole hgd ho hN g ty old cells hp hv hb hi hs h1 h
end
section
variable {P:Program} {ops:Array Oper} {Q:Exit→Act→World→Prop} {md:Region.Mode} {S:World→Prop} {ds:List Nat} {T:Bool × List (List Nat × List Nat)}
theorem tzL {B:List Nat} (i:Nat) (N:Option Tmp) (l':Array Bool) (HT:Aside0 (rtab md ops=T)) (HW:Aside0 (waitsOk T.2 B=true)) {w:World} (hS:S w) (ty:TypeId) (p:Tmp) (g:Nat) {cs:Array Value} {d:TypeDesc} (hb:∀ w,S w→w.heap[g]?=some (.cells cs ty (0,0))) (hu:P.underlying ty=some d)
 {oi:Oper} {fuel:Nat} {l:Array Bool} {a a':Act} (h:jk6 P md ops Q S ds fuel l' a' w)
 (hi:ops[i]?=some oi:=by exact rfl) (hN:oi.dst=N:=by exact rfl) (hc:takeW T B ds l.toList l'.toList i=true:=by kernel_rfl) (hQ:∀ c a w,Q (.panic c) (a.put oi.dst (.agg cs)) w→Q (.panic c) a w:=by exact fun _ _ _ h=>h) (hw:Region.wanted oi (yielded ops a.tmps)=true:=by rfl)
 (ho:oi.op = .load ty (.tmp p):=by exact rfl) (hx:a.eval (.tmp p) = .pointer (some ⟨g,0,none⟩):=by exact rfl) (hd:(match (generalizing:=false) d with | .struct _ | .array _ _=>true|_=>false)=true:=by exact rfl) (hif:(P.info? ty).map (·.size)=some cs.size:=by kernel_rfl)
 (ha:a.put N (.agg cs)=a':=by (simp only [Act.put,List.setIfInBounds_toArray,List.set_cons_zero,List.set_cons_succ];rfl)):jk6 P md ops Q S ds (fuel+1) l a w:=
 take_ l' hi hN (take_ofW HT.out HW.out hc) hQ (.inl ⟨hw,fun w' hS'=>by
  have hr:(loadVar ty ⟨g,0,none⟩).run P w' = .ok (.agg cs) w':=run_loadVar_row w' g ty ty cs (0,0) d (hb w' hS') hu (by revert hu hd;cases d <;> intro hu hd <;> first|rfl|(cases hd)) hif
  unfold execOp
  simp only [ho,hx,Instr.loadAt,Instr.sureAddr,Sem.run_bind,Sem.run_pure,Result.andThen_ok,hr]⟩) hS ha h
end
end Go.Proofs.Ytheoafenehckbaa.Ur
