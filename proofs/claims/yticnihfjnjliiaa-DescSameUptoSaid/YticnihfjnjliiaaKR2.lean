/- The reference's lists of texts. -/
import Derived.Test.YticnihfjnjliiaaKR1
import Derived.Test.YticnihfjnjliiaaKSw
import Derived.LoopN
import Derived.RegionTactic
namespace Go.Proofs.Yticnihfjnjliiaa.R1
open Go.RowKit Go.Proofs.Yticnihfjnjliiaa.GDescGrows Go.Proofs.YticnihfjnjliiaaW.PrintWords Go.Proofs.YticnihfjnjliiaaW.PrintLast Go.Proofs.YticnihfjnjliiaaW.PrintMore Go.Proofs.Yticnihfjnjliiaa.Vb Go.Proofs.Yticnihfjnjliiaa.Wr Go.Proofs.Yticnihfjnjliiaa.Wp Go.Proofs.Yticnihfjnjliiaa.Rk Go.Proofs.Yticnihfjnjliiaa.Sp
set_option linter.unusedVariables false
set_option linter.unusedSimpArgs false
theorem fk_ {W : World} {A : Option Addr} {c : Nat} {xs : List Int} (h : Kd.C (Kd.int .u8) W A xs.length xs) (hc : xs.length ≤ c) : Kd.FK (Kd.slice 5 (Kd.int .u8)) W (fun k_ => k_ < W.heap.size) xs [.slice A xs.length c] :=
 Kd.FK_slice_mk hc (fun W2 hW2 => Kd.Heap.C (Kd.heap_int .u8) (fun k_ hk_ => hW2 k_ hk_ hk_) h)
theorem num_step (i n : Nat) (h : i < n) (hn : n < 9223372036854775807) : wrap64 ((i : Int) + 1) = ((i + 1 : Nat) : Int) := by unfold wrap64; omega
theorem dec_lt {i n : Nat} (h : i < n) : decide ((i : Int) < (n : Int)) = true := decide_eq_true (by omega)
theorem dec_ge {i n : Nat} (h : ¬ i < n) : decide ((i : Int) < (n : Int)) = false := decide_eq_false (by omega)
theorem flat_step {α : Type} (fs : α → List Int) (l : List α) (d : α) (i : Nat) (h : i < l.length) : ∃ x, x ∈ l ∧ l.getD i d = x ∧ (l.take (i + 1)).flatMap fs = (l.take i).flatMap fs ++ fs x ∧ ((l.take i).flatMap fs).length + (fs x).length ≤ (l.flatMap fs).length := by
 refine ⟨l[i], List.getElem_mem h, by simp [h], ?_, ?_⟩
 · rw [List.take_add_one, List.getElem?_eq_getElem h, List.flatMap_append]
   simp
 · have hs : l.flatMap fs = (l.take i).flatMap fs ++ (fs l[i] ++ (l.drop (i + 1)).flatMap fs) := by
    conv => lhs; rw [← List.take_append_drop i l, List.drop_eq_getElem_cons h]
    rw [List.flatMap_append, List.flatMap_cons]
   have := congrArg List.length hs
   rw [List.length_append, List.length_append] at this
   omega
theorem len_sum {α : Type} (g : α → Nat) (hg : ∀ x, 1 ≤ g x) : ∀ l : List α, l.length ≤ (l.map g).sum
 | [] => Nat.zero_le _
 | a :: l => by
  have h1 := hg a
  have h2 := len_sum g hg l
  rw [List.length_cons, List.map_cons, List.sum_cons]
  omega
set_option maxHeartbeats 8000000 in
set_option maxRecDepth 100000 in
theorem texts_c (l : List ByteArray) (hb : (l.map (fun y : ByteArray => y.size + 1)).sum ≤ 4294967296) (num : Int) (hn : 1 ≤ num ∧ num ≤ 536870911) (A0 : Option Addr) (c0 : Nat) (w : World) (hC : Kd.C Kd.string w A0 l.length l) :
 Calls Try.prog 50 #[.int .i64 num, .slice A0 l.length c0] w fun e w' => Ret_ (l.flatMap fun y => fB num (bytesOf y)) w e w' := by
 have hlen := words_len num hn l hb
 have hll := len_sum (fun y : ByteArray => y.size + 1) (fun y => by omega) l
 have HL : Aside0 ((l.flatMap fun y => fB num (bytesOf y)).length ≤ 1099511627776) := ⟨by omega⟩
 have HS := mk0 hb
 have HN := mk0 hn
 have HC0 := mk0 hC
 have HB0 := mk0 (Below.refl w.heap.size w)
 replace hll : l.length < 9223372036854775807 := by omega
 clear hlen hb hn
 go_enter Try.func50, Try.ntmps50
 go_wp2
 go_loopg [5, 10] l.length (fun kq v5 v10 w' => ∃ i : Nat, v10 = .int .i64 (i : Int) ∧ Aside0 (i + kq = l.length) ∧ Aside0 (Kd.R (Kd.int .u8) 5 w' w.heap.size (fun _ => True) v5 ((l.take i).flatMap fun y => fB num (bytesOf y))) ∧ Aside0 (Below w.heap.size w w'))
 case atStart => exact ⟨0, rfl, ⟨by omega⟩, ⟨Kd.R_nil _ _ _ _ _⟩, ⟨HB0.out⟩⟩
 case round =>
  obtain ⟨i, rfl, HI, HO, HB⟩ := hrel
  obtain ⟨acc, hacc⟩ : ∃ z, ((l.take i).flatMap fun y => fB num (bytesOf y)) = z := ⟨_, rfl⟩
  rw [hacc] at HO
  obtain ⟨Av, cv, ev⟩ := Kd.R_slice HO.out
  subst ev
  by_cases hlt : i < l.length
  · have hwp := num_step i l.length hlt hll
    have d0 := dec_lt hlt
    have p0 : (0 ≤ (i : Int)) = True := eq_true (Int.natCast_nonneg i)
    have q0 : ((i : Int) < (l.length : Int)) = True := eq_true (Int.ofNat_lt.2 hlt)
    obtain ⟨x, hmem, hxe, htake0, hlen0⟩ := flat_step (fun y => fB num (bytesOf y)) l (⟨#[]⟩ : ByteArray) i hlt
    rw [hacc] at htake0 hlen0
    have htake := mk0 htake0
    have hlen : Aside0 (acc.length + (fB num (bytesOf x)).length < 140737488355328) := ⟨by have := HL.out; omega⟩
    clear htake0 hlen0 hacc
    have hCw := Kd.C_below HC0.out HB.out
    obtain ⟨ad, cc, ea, _, hKx, hcc⟩ := Kd.C_get hCw (⟨#[]⟩ : ByteArray) (i : Int) (by omega) (by omega)
    rw [Int.toNat_natCast] at hKx hcc
    rw [hxe] at hKx
    obtain rfl : cc = [.string x] := hKx
    have hcell : wr.cell? (ad.add i) = some (.string x) := by have := hcc 0 _ rfl; rwa [show i * Kd.string.sz + 0 = i from by show i * 1 + 0 = i; omega] at this
    subst ea
    clear hcc hxe
    have hsz : x.size ≤ 1099511627776 := by have := sum_le (fun y : ByteArray => y.size + 1) l x hmem; have := HS.out; omega
    have hcv := cv_run x
    have hp := fun (W1 : World) => part_c num (bytesOf x) (some ⟨W1.heap.size, 0, none⟩) (grownCap W1 x.size 0 5) (Go.Lib.bytesWorld W1 5 x) HN.out (by rw [bytesOf_length]; exact hsz) (cv_C W1 x (by omega)) (cv_cap W1 x)
    simp only [bytesOf_length] at hp
    have hcb := mk0 (cv_below wr x)
    clear hsz
    cases gk with
    | zero => exact absurd HI.out (fun h => Nat.ne_of_lt hlt h)
    | succ k1 =>
     go_wp2_with (first | (go_at_call 71; (with_reducible refine (hp _).mono ?_); rintro e w1 ⟨v, rfl, h1, h2⟩; obtain ⟨R_, r_, ex_⟩ := Kd.R_slice h1; subst ex_; have HCp := mk0 (Kd.R_reads' h1).2.2; have hbx := below_then hcb.out hcb.out.size h2; have HBc := mk0 (below_then HB.out HB.out.size hbx); have HOc := mk0 (Kd.R_below HO.out hbx); clear h1 h2 hbx) | ((with_reducible refine gate_builtin (b := .append) (xs := #[.tmp 14, .tmp 18]) rfl ?_); (try (refine gate_guard (by rfl) ?_; dsimp only)); at_builtin; refine Kd.R_append_rows (Kd.int .u8) (w0 := w) w.heap.size rfl (.tmp 14) (.tmp 18) 28 5 (.int .u8 0) 1 rfl Try.underlying28 GDescGrows.info5 rfl (by decide) (by omega) (.slice Av acc.length cv) acc (fB num (bytesOf x)) _ _ _ (fun _ => True) (fun _ => False) rfl rfl ?aO ?aR (fun _ _ h => h) (fun _ h => h.elim) ?aF ?aB ?aS ?aL ?_; (case aR => exact HCp.out); (case aB => exact HBc.out); (case aF => exact fun _ _ => trivial); (case aO => exact HOc.out); (case aS => exact HBc.out.size); (case aL => have h1 := hlen.out; omega); intro v1 w2 ho2 hb2 hg2 hat2; have HOn := mk0 ho2; have HBn := mk0 hb2; clear ho2 hb2 hg2 hat2))
     go_roundg k1
     case measure => exact Nat.lt_succ_self k1
     case rel => exact ⟨i + 1, (by first | rfl | (rw [hwp]) | (simp [hwp]; done)), ⟨(Nat.add_right_comm i 1 k1).trans HI.out⟩, ⟨by rw [htake.out]; exact HOn.out⟩, ⟨HBn.out⟩⟩
  · have d0 := dec_ge hlt
    rw [List.take_of_length_le (Nat.le_of_not_lt hlt)] at hacc
    have HE := mk0 hacc
    clear hacc
    go_wp2
    go_ret
    exact ⟨_, rfl, by rw [HE.out]; exact HO.out, HB.out⟩
end Go.Proofs.Yticnihfjnjliiaa.R1
