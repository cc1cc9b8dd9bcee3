/- A struct that is stored into the whole of its block: one step, and the world by one name. -/
import Derived.Laws.Tables
import Derived.Laws.CopyOwn
import Derived.Test.YtheoafenehckbaaQW
namespace Go.Proofs.Ytheoafenehckbaa.Sw
open Go.RowKit YtheoafenehckbaaW.PrintWords
theorem fold_whole (vs:List Value):∀ (k:Nat) (cur:Array Value),cur.size=k+vs.length→(vs.zipIdx k).foldl (fun cs (p:Value × Nat)=>cs.setIfInBounds (0+p.2) p.1) cur=(cur.toList.take k++vs).toArray:=by
 induction vs with
 | nil=>
  intro k cur h
  rw [List.zipIdx_nil,List.foldl_nil,List.append_nil,List.take_of_length_le (by rw [Array.length_toList,h];simp),Array.toArray_toList]
 | cons v vs ih=>
  intro k cur h
  rw [List.length_cons] at h
  rw [List.zipIdx_cons,List.foldl_cons,ih (k+1) _ (by rw [Array.size_setIfInBounds,h];omega)]
  congr 1
  rw [Array.toList_setIfInBounds,Nat.zero_add,List.take_add_one,List.take_set_of_le (Nat.le_refl k),List.append_assoc]
  congr 1
  rw [List.getElem?_set_self (by rw [Array.length_toList];omega)]
  rfl
theorem fill_whole (cells init:Array Value) (h:init.size=cells.size):Instr.fill (fun i=>some (i*cells.size,cells.size)) init [(0,.agg cells)]=some cells:=by
 have hf:cells.zipIdx.foldl (fun cs (p:Value × Nat)=>cs.setIfInBounds (0+p.2) p.1) init=cells:=by
  rw [← Array.foldl_toList,Array.toList_zipIdx,fold_whole cells.toList 0 init (by rw [h,Array.length_toList];simp)]
  simp
 simp only [Instr.fill,Value.cells,Nat.zero_mul]
 rw [if_neg (by simp [h])]
 exact congrArg some hf
theorem run_buildSlice_one {P:Program} (W:World) (t e:TypeId) (z:Value) (n:Nat) (cells:Array Value) (ht:P.underlying t=some (.slice e)) (hi:(P.info? e).map (fun i=>(i.zero,i.size,i.bytes))=some (some z,cells.size,n)) (h0:0 < cells.size) (hle:cells.size≤16777216) :
 (Instr.buildSlice t 1 #[(0,.agg cells)]).run P W = .ok (.slice (some ⟨W.heap.size,0,none⟩) 1 1) (W.alloc (.cells cells e)):=by
 obtain ⟨i,hi,he⟩:=Option.map_eq_some_iff.1 hi
 simp only [Prod.mk.injEq] at he
 obtain ⟨hz,hs,-⟩:=he
 have hf:=fill_whole cells ((Array.range cells.size).map (z.cells[· % z.cells.size]!)) (by rw [Array.size_map,Array.size_range])
 have h1:¬ (16777216 < cells.size):=by omega
 have h2:¬ (cells=#[]):=fun h=>by rw [h] at h0;exact absurd h0 (by decide)
 simp [Instr.buildSlice,run_underlying ht,sizeOf,zeroValue,typeInfo,hi,hz,hs,Nat.one_mul,h1,h2,hf,newRow,newObj,Result.andThen]
 rfl
theorem run_op_buildSlice {P:Program} {W:World} {a:Act} {o:Oper} {t e:TypeId} {x:Operand} {z:Value} {n:Nat} {cells:Array Value} (ho:o.op = .buildSlice t 1 #[(0,x)]) (hx:a.eval x = .agg cells) (ht:P.underlying t=some (.slice e)) (hi:(P.info? e).map (fun i=>(i.zero,i.size,i.bytes))=some (some z,cells.size,n)) (h0:0 < cells.size) (hle:cells.size≤16777216) :
 (execOp a.eval o).run P W = .ok (.value (.slice (some ⟨W.heap.size,0,none⟩) 1 1)) (W.alloc (.cells cells e)):=by
 have hr:=run_buildSlice_one W t e z n cells ht hi h0 hle
 simp only [execOp,ho,List.map_toArray,List.map_cons,List.map_nil,hx]
 simp [hr,Result.andThen]
section
variable {P:Program} {ops:Array Oper} {rest:List Oper} {o:Oper} {a:Act} {Q:Exit→Act→World→Prop}
theorem store_whole {W:World} (hgd:o.guard=none) {t:TypeId} {p:Tmp} {v:Operand} (ho:o.op = .store t (.tmp p) v) (hN:o.dst=none) (g:Nat) (et:TypeId) (old cells:Array Value)
 (hp:a.eval (.tmp p) = .pointer (some ⟨g,0,none⟩)) (hv:a.eval v = .agg cells) (hb:W.heap[g]?=some (.cells old et (0,0))) (hi:(P.info? t).map (·.size)=some cells.size) (hs:old.size=cells.size) (h1:cells.toList.all (·.oneCell')=true)
 (h:∀ w',w'.heap[g]?=some (.cells cells et (0,0))→(∀ B w0,B≤g→Below B w0 W→Below B w0 w')→(∀ k,k≠g→w'.heap[k]?=W.heap[k]?)→wpList P ops Q rest a w'):wpList P ops Q (o :: rest) a W:=by
 refine store_event (w1:=W.setRow g cells) hgd ho hN ?_ (fun w' e=>e ▸ h _ (setRow_heap W g old cells et (0,0) hb) (fun B w0 hB hbel=>below_setRow hbel hB cells) (fun k hk=>setRow_other W g k cells hk))
 have hr:=run_storeVar_row (P:=P) W g et t old cells hb hi hs (by rw [← Array.all_toList];exact h1)
 simp only [execOp,ho,hp,hv,Instr.storeAt]
 have hs2:Sem.run P (Instr.sureAddr (Value.pointer (some ⟨g,0,none⟩))) W = .ok ⟨g,0,none⟩ W:=rfl
 simp [Sem.run_bind,hs2,hr,Result.andThen]
end
end Go.Proofs.Ytheoafenehckbaa.Sw
