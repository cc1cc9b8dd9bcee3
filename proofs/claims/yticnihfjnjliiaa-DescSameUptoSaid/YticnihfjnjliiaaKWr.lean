/- Fields as bytes: what both programs answer. -/
import Derived.Test.YticnihfjnjliiaaKFx
namespace Go.Proofs.Yticnihfjnjliiaa.Wr
open Go.RowKit Go.Proofs.YticnihfjnjliiaaW.PrintWords Go.Proofs.YticnihfjnjliiaaW.PrintLast Go.Proofs.YticnihfjnjliiaaW.PrintMore Go.Proofs.Yticnihfjnjliiaa.Vb Go.Proofs.Yticnihfjnjliiaa.Fx
def okKind (kind : Int) : Prop := kind = 0 ∨ kind = 1 ∨ kind = 2 ∨ kind = 5
instance (kind : Int) : Decidable (okKind kind) := by unfold okKind; infer_instance
def worth (kind n : Int) (b : List Int) : List Int := if kind = 0 then vb n.toNat else if kind = 1 then fx n 8 else if kind = 5 then fx n 4 else vb b.length ++ b
def field (num kind n : Int) (b : List Int) : List Int := vb (8 * num + kind).toNat ++ worth kind n b
def okField (num kind : Int) : Prop := 1 ≤ num ∧ num ≤ 536870911 ∧ okKind kind
instance (num kind : Int) : Decidable (okField num kind) := by unfold okField; infer_instance
def pt (num kind n : Int) (b : List Int) : List Int × Int := if okField num kind then (field num kind n b, 0) else ([], 20)
theorem worth_length (kind n : Int) (b : List Int) (n0 : 0 ≤ n) (n1 : n < 18446744073709551616) (hb : b.length < 18446744073709551616) : (worth kind n b).length ≤ 10 + b.length := by
 have h1 := vb_ten n.toNat (by omega)
 have h2 := vb_ten b.length hb
 unfold worth
 split
 · omega
 · split
   · rw [fx_length]; omega
   · split
     · rw [fx_length]; omega
     · rw [List.length_append]; omega
theorem field_length (num kind n : Int) (b : List Int) (h : okField num kind) (n0 : 0 ≤ n) (n1 : n < 18446744073709551616) (hb : b.length < 18446744073709551616) : (field num kind n b).length ≤ 20 + b.length := by
 have h1 := worth_length kind n b n0 n1 hb
 obtain ⟨a1, a2, a3⟩ := h
 have h2 := vb_ten (8 * num + kind).toNat (by unfold okKind at a3; omega)
 unfold field
 rw [List.length_append]; omega
theorem worth_bytes (kind n : Int) (b : List Int) (hb : Bytes b) : Bytes (worth kind n b) := by
 unfold worth
 split
 · exact vb_bytes _
 · split
   · exact fx_bytes _ _
   · split
     · exact fx_bytes _ _
     · intro x hx
       rcases List.mem_append.1 hx with h | h
       · exact vb_bytes _ x h
       · exact hb x h
theorem field_bytes (num kind n : Int) (b : List Int) (hb : Bytes b) : Bytes (field num kind n b) := by
 intro x hx
 rcases List.mem_append.1 hx with h | h
 · exact vb_bytes _ x h
 · exact worth_bytes _ _ _ hb x h
end Go.Proofs.Yticnihfjnjliiaa.Wr
