/- A struct that is stored into the whole of its block: one step, and the world by one name. -/
import Derived.Laws.Tables
import Derived.Laws.CopyOwn
import Derived.Test.YticnihfjnjliiaaKW
namespace Go.Proofs.Yticnihfjnjliiaa.Sw
open Go.RowKit Go.Proofs.YticnihfjnjliiaaW.PrintWords
section
variable {P : Program} {ops : Array Oper} {rest : List Oper} {o : Oper} {a : Act} {Q : Exit → Act → World → Prop}
theorem store_whole {W : World} (hgd : o.guard = none) {t : TypeId} {p : Tmp} {v : Operand} (ho : o.op = .store t (.tmp p) v) (hN : o.dst = none) (g : Nat) (et : TypeId) (old cells : Array Value)
 (hp : a.eval (.tmp p) = .pointer (some ⟨g, 0, none⟩)) (hv : a.eval v = .agg cells) (hb : W.heap[g]? = some (.cells old et (0, 0))) (hi : (P.info? t).map (·.size) = some cells.size) (hs : old.size = cells.size) (h1 : cells.toList.all (·.oneCell') = true)
 (h : ∀ w', w'.heap[g]? = some (.cells cells et (0, 0)) → (∀ B w0, B ≤ g → Below B w0 W → Below B w0 w') → (∀ k, k ≠ g → w'.heap[k]? = W.heap[k]?) → wpList P ops Q rest a w') : wpList P ops Q (o :: rest) a W := by
 refine store_event (w1 := W.setRow g cells) hgd ho hN ?_ (fun w' e => e ▸ h _ (setRow_heap W g old cells et (0, 0) hb) (fun B w0 hB hbel => below_setRow hbel hB cells) (fun k hk => setRow_other W g k cells hk))
 have hr := run_storeVar_row (P := P) W g et t old cells hb hi hs (by rw [← Array.all_toList]; exact h1)
 simp only [execOp, ho, hp, hv, Instr.storeAt]
 have hs2 : Sem.run P (Instr.sureAddr (Value.pointer (some ⟨g, 0, none⟩))) W = .ok ⟨g, 0, none⟩ W := rfl
 simp [Sem.run_bind, hs2, hr, Result.andThen]
end
end Go.Proofs.Yticnihfjnjliiaa.Sw
