/- What desc's functions append, in the words of Sp. -/
import Derived.Test.YticnihfjnjliiaaKSp
import Derived.Test.YticnihfjnjliiaaKBq
import Derived.Test.YticnihfjnjliiaaKBr
import Derived.Test.YticnihfjnjliiaaKBs
import Derived.Test.YticnihfjnjliiaaKBt
import Derived.Test.YticnihfjnjliiaaKBu
namespace Go.Proofs.Yticnihfjnjliiaa.Cn
open Go.RowKit Go.Proofs.Yticnihfjnjliiaa.GDescGrows Go.Proofs.YticnihfjnjliiaaW.PrintWords Go.Proofs.YticnihfjnjliiaaW.PrintLast Go.Proofs.YticnihfjnjliiaaW.PrintMore Go.Proofs.Yticnihfjnjliiaa.Vb Go.Proofs.Yticnihfjnjliiaa.Wr Go.Proofs.Yticnihfjnjliiaa.Wp Go.Proofs.Yticnihfjnjliiaa.Rk Go.Proofs.Yticnihfjnjliiaa.Sp Go.Proofs.Yticnihfjnjliiaa.Bp
set_option linter.unusedVariables false
/-- A function that puts a struct's bytes behind a part's; a list's. -/
def Fl (F : Nat) (cs : List Value) (bs : List Int) (n : Nat) (w0 : World) : Prop :=
  ∀ (w : World) (gp : Nat) (v : Value) (acc : List Int), Below w0.heap.size w0 w → w0.heap.size ≤ gp → Pt_ w0.heap.size w gp v acc → acc.length + n < 140737488355328 →
    Calls Try.prog F #[.pointer (some ⟨gp, 0, none⟩), .agg cs.toArray] w fun e w' => Put_ w0 w gp v (acc ++ bs) e w'
def Ls (L FN : Nat) (num : Int) (sv : Value) (bs : List Int) (w0 : World) : Prop :=
  ∀ (gp : Nat) (W : World) (vq : Value) (aq : List Int), w0.heap.size ≤ gp → Below w0.heap.size w0 W → Pt_ w0.heap.size W gp vq aq → aq.length + bs.length < 140737488355328 →
    Calls Try.prog L #[.pointer (some ⟨gp, 0, none⟩), .int .i64 num, sv, .func (.func FN) #[] #[]] W fun e w' => Put_ w0 W gp vq (aq ++ bs) e w'
theorem put_T {num : Int} (hn : 1 ≤ num ∧ num ≤ 536870911) : wire_Put.f 11 num 0 1 [] = some (fN num 1, 0) := put_N 1 hn
theorem fBs_len {num : Int} (s : ByteArray) (hn : 1 ≤ num ∧ num ≤ 536870911) (hb : s.size ≤ 1099511627776) : (fB num (bytesOf s)).length ≤ 20 + s.size := by
  have := fB_len (bytesOf s) hn (by rw [bytesOf_length]; exact hb)
  rwa [bytesOf_length] at this
theorem fBo_len {num : Int} {b : List Int} (u : Bytes b) (hn : 1 ≤ num ∧ num ≤ 536870911) (hb : b.length ≤ 1099511627776) : (fB num (bytesOf (strOfNums b))).length ≤ 20 + b.length := by
  rw [bytesOf_strOf u]
  exact fB_len b hn hb
theorem len_le_sum {α : Type} (g : α → Nat) (hg : ∀ x, 1 ≤ g x) : ∀ l : List α, l.length ≤ (l.map g).sum
  | [] => Nat.zero_le _
  | a :: l => by
    have h1 := hg a
    have h2 := len_le_sum g hg l
    rw [List.length_cons, List.map_cons, List.sum_cons]
    omega
theorem ls_text (l : List ByteArray) (num : Int) (hn : 1 ≤ num ∧ num ≤ 536870911) (A : Option Addr) (c : Nat) (w0 : World) (hC : Kd.C Kd.string w0 A l.length l) (hc : l.length ≤ c) (hb : (l.map fun y => y.size + 1).sum ≤ 4294967296) :
    Ls 57 58 num (.slice A l.length c) (l.flatMap fun y => fB num (bytesOf y)) w0 := by
  have hbe : ∀ y ∈ l, y.size + 1 ≤ 4294967296 := fun y hy => Nat.le_trans (sum_le (fun y : ByteArray => y.size + 1) l y hy) hb
  have hll := len_le_sum (fun y : ByteArray => y.size + 1) (fun y => by omega) l
  intro gp W vq aq h1 h2 h3 h4
  exact bp_list57 11 gp num A c l (fun y => fB num (bytesOf y)) vq aq w0 W h2 h1 h3 hC hc (fun y hy => ⟨0, put_B _ hn (by have := hbe y hy; rw [bytesOf_length]; omega)⟩) h4 (fun y hy => by have := hbe y hy; omega) (by omega)
theorem cn_Range (x : S90) (w0 : World) (cs : List Value) (hK : k90.K w0 x cs) : Fl 78 cs (bRange x) (256 * bk90 x) w0 := by
  obtain rfl := k90_open hK
  intro w gp v acc hB hg hp hl
  have n1 := fN_len (num := 1) x.f0 (by decide)
  have n2 := fN_len (num := 2) (wrap64 (IntKind.u64.wrap (IntKind.u64.wrap x.f1 + 1))) (by decide)
  unfold bk90 at hl
  exact bp_fill78 11 gp x.f0 x.f1 _ _ _ _ v acc w0 w hB hg hp (put_N _ (by decide)) (put_N _ (by decide)) (by omega)
theorem ls_Range (l : List S90) (num : Int) (hn : 1 ≤ num ∧ num ≤ 536870911) (A : Option Addr) (c : Nat) (w0 : World) (hC : Kd.C k90 w0 A l.length l) (hc : l.length ≤ c) (hb : (l.map bk90).sum ≤ 4294967296) :
    Ls 77 78 num (.slice A l.length c) (l.flatMap fun y => fB num (bRange y)) w0 := by
  have hbe : ∀ y ∈ l, bk90 y ≤ 4294967296 := fun y hy => Nat.le_trans (sum_le bk90 l y hy) hb
  have hll := len_le_sum bk90 (fun y => by unfold bk90; omega) l
  intro gp W vq aq h1 h2 h3 h4
  exact bp_list77 11 gp num A c l bRange (fun y => fB num (bRange y)) vq aq w0 W h2 h1 h3 hC hc (fun y hy => ⟨0, put_B _ hn (by have h := len90_ y; have := hbe y hy; omega)⟩) h4 (by omega) (fun y hy W0 W gq k1 k2 k3 k4 => cn_Range y W0 _ (k90_mk W0 y) W gq _ _ k2 k3 k4 (by have := hbe y hy; simp only [List.length_nil]; omega))
theorem cn_Field (x : S69) (g : good69 x) (hb : bk69 x ≤ 4294967296) (w0 : World) (cs : List Value) (hK : k69.K w0 x cs) : Fl 66 cs (bField x) (256 * bk69 x) w0 := by
  obtain ⟨A11, c11, A12, c12, rfl, l11, g11, l12, g12⟩ := k69_open hK
  intro w gp v acc hB hg hp hl
  unfold bk69 at hl hb
  rw [sum_one, sum_one] at hl hb
  have u11 : Bytes x.f11 := bytes_of_wf g.2.2.2.2.2.2.2.2.2.2.2.1.2
  have n1 := fBs_len (num := 1) x.f0 (by decide) (by omega)
  have n2 := fBs_len (num := 2) x.f5 (by decide) (by omega)
  have n3 := fN_len (num := 3) x.f1 (by decide)
  have n4 := fN_len (num := 4) x.f2 (by decide)
  have n5 := fN_len (num := 5) x.f3 (by decide)
  have n6 := fBs_len (num := 6) x.f4 (by decide) (by omega)
  have n7 := fBs_len (num := 7) x.f6 (by decide) (by omega)
  have n8 := fBo_len (num := 8) u11 (by decide) (by omega)
  have n9 := fN_len (num := 9) (wrap64 (x.f8 - 1)) (by decide)
  have n10 := fBs_len (num := 10) x.f9 (by decide) (by omega)
  have n11 := fN_len (num := 17) 1 (by decide)
  have h := bp_fill66 11 gp x.f0 x.f1 x.f2 x.f3 x.f4 x.f5 x.f6 x.f7 x.f8 x.f9 x.f10 A11 c11 x.f11 A12 c12 x.f12 _ _ _ _ _ _ _ _ _ _ _ _ _ _ _ _ _ _ _ _ _ _ _ _ _ _ _ _ _ _ _ _ _ v acc w0 w hB hg hp g12 l12 (by omega) (put_B (num := 1) (bytesOf x.f0) (by decide) (by rw [bytesOf_length]; omega)) (rfl : _ = tS 1 x.f0) (by omega) (put_B (num := 2) (bytesOf x.f5) (by decide) (by rw [bytesOf_length]; omega)) (rfl : _ = tS 2 x.f5) (put_N (num := 3) x.f1 (by decide)) (rfl : _ = sN 3 x.f1) (put_N (num := 4) x.f2 (by decide)) (rfl : _ = sN 4 x.f2) (put_N (num := 5) x.f3 (by decide)) (rfl : _ = sN 5 x.f3) (by omega) (put_B (num := 6) (bytesOf x.f4) (by decide) (by rw [bytesOf_length]; omega)) (rfl : _ = tS 6 x.f4) (by omega) (put_B (num := 7) (bytesOf x.f6) (by decide) (by rw [bytesOf_length]; omega)) (rfl : _ = dB x.f7 x.f6) (by rw [strOf_size u11]; omega) g11 (put_B (num := 8) (bytesOf (strOfNums x.f11)) (by decide) (by rw [bytesOf_length, strOf_size u11]; omega)) (o_eq u11) (put_N (num := 9) (wrap64 (x.f8 - 1)) (by decide)) (rfl : _ = pN x.f8) (by omega) (put_B (num := 10) (bytesOf x.f9) (by decide) (by rw [bytesOf_length]; omega)) (rfl : _ = tS 10 x.f9) (put_T (num := 17) (by decide)) (rfl : _ = tB 17 x.f10) (by omega)
  have e : acc ++ tS 1 x.f0 ++ tS 2 x.f5 ++ sN 3 x.f1 ++ sN 4 x.f2 ++ sN 5 x.f3 ++ tS 6 x.f4 ++ dB x.f7 x.f6 ++ oB 8 x.f11 ++ pN x.f8 ++ tS 10 x.f9 ++ tB 17 x.f10 ++ x.f12 = acc ++ bField x := by unfold bField; simp only [List.append_assoc]
  rw [← e]
  exact h
theorem ls_Field (l : List S69) (num : Int) (hn : 1 ≤ num ∧ num ≤ 536870911) (A : Option Addr) (c : Nat) (w0 : World) (hC : Kd.C k69 w0 A l.length l) (hc : l.length ≤ c) (hg : ∀ y ∈ l, good69 y) (hb : (l.map bk69).sum ≤ 4294967296) :
    Ls 65 66 num (.slice A l.length c) (l.flatMap fun y => fB num (bField y)) w0 := by
  have hbe : ∀ y ∈ l, bk69 y ≤ 4294967296 := fun y hy => Nat.le_trans (sum_le bk69 l y hy) hb
  have hll := len_le_sum bk69 (fun y => by unfold bk69; omega) l
  intro gp W vq aq h1 h2 h3 h4
  exact bp_list65 11 gp num A c l bField (fun y => fB num (bField y)) vq aq w0 W h2 h1 h3 hC hc (fun y hy => ⟨0, put_B _ hn (by have h := len69_ y (hbe y hy); have := hbe y hy; omega)⟩) h4 (by omega) (fun y hy W0 W gq k1 k2 k3 k4 A11 c11 A12 c12 l11 g11 l12 g12 => cn_Field y (hg y hy) (hbe y hy) W0 _ (k69_mk W0 y l11 g11 l12 g12) W gq _ _ k2 k3 k4 (by have := hbe y hy; simp only [List.length_nil]; omega))
theorem cn_Value (x : S93) (g : good93 x) (hb : bk93 x ≤ 4294967296) (w0 : World) (cs : List Value) (hK : k93.K w0 x cs) : Fl 83 cs (bValue x) (256 * bk93 x) w0 := by
  obtain ⟨A2, c2, A3, c3, rfl, l2, g2, l3, g3⟩ := k93_open hK
  intro w gp v acc hB hg hp hl
  unfold bk93 at hl hb
  rw [sum_one, sum_one] at hl hb
  have u2 : Bytes x.f2 := bytes_of_wf g.2.2.1.2
  have n1 := fBs_len (num := 1) x.f0 (by decide) (by omega)
  have n2 := fN_len (num := 2) x.f1 (by decide)
  have n3 := fBo_len (num := 3) u2 (by decide) (by omega)
  have h := bp_fill83 11 gp x.f0 x.f1 A2 c2 x.f2 A3 c3 x.f3 _ _ _ _ _ _ _ _ _ v acc w0 w hB hg hp g3 l3 (by omega) (put_B (num := 1) (bytesOf x.f0) (by decide) (by rw [bytesOf_length]; omega)) (rfl : _ = tS 1 x.f0) (put_N (num := 2) x.f1 (by decide)) rfl (by rw [strOf_size u2]; omega) g2 (put_B (num := 3) (bytesOf (strOfNums x.f2)) (by decide) (by rw [bytesOf_length, strOf_size u2]; omega)) (o_eq u2) (by omega)
  have e : acc ++ tS 1 x.f0 ++ fN 2 x.f1 ++ oB 3 x.f2 ++ x.f3 = acc ++ bValue x := by unfold bValue; simp only [List.append_assoc]
  rw [← e]
  exact h
theorem ls_Value (l : List S93) (num : Int) (hn : 1 ≤ num ∧ num ≤ 536870911) (A : Option Addr) (c : Nat) (w0 : World) (hC : Kd.C k93 w0 A l.length l) (hc : l.length ≤ c) (hg : ∀ y ∈ l, good93 y) (hb : (l.map bk93).sum ≤ 4294967296) :
    Ls 82 83 num (.slice A l.length c) (l.flatMap fun y => fB num (bValue y)) w0 := by
  have hbe : ∀ y ∈ l, bk93 y ≤ 4294967296 := fun y hy => Nat.le_trans (sum_le bk93 l y hy) hb
  have hll := len_le_sum bk93 (fun y => by unfold bk93; omega) l
  intro gp W vq aq h1 h2 h3 h4
  exact bp_list82 11 gp num A c l bValue (fun y => fB num (bValue y)) vq aq w0 W h2 h1 h3 hC hc (fun y hy => ⟨0, put_B _ hn (by have h := len93_ y (hbe y hy); have := hbe y hy; omega)⟩) h4 (by omega) (fun y hy W0 W gq k1 k2 k3 k4 A2 c2 A3 c3 l2 g2 l3 g3 => cn_Value y (hg y hy) (hbe y hy) W0 _ (k93_mk W0 y l2 g2 l3 g3) W gq _ _ k2 k3 k4 (by have := hbe y hy; simp only [List.length_nil]; omega))
theorem cn_Enum (x : S60) (g : good60 x) (hb : bk60 x ≤ 4294967296) (w0 : World) (cs : List Value) (hK : k60.K w0 x cs) : Fl 62 cs (bEnum x) (256 * bk60 x) w0 := by
  obtain ⟨A1, c1, A2, c2, A3, c3, rfl, l1, g1, l2, g2, l3, g3⟩ := k60_open hK
  intro w gp v acc hB hg hp hl
  unfold bk60 at hl hb
  rw [sum_one, sum_one] at hl hb
  have u2 : Bytes x.f2 := bytes_of_wf g.2.2.1.2
  have n1 := fBs_len (num := 1) x.f0 (by decide) (by omega)
  have n2 := flat_len bk93 2 bValue (by decide) x.f1 (fun y hy => len93_ y (by have := sum_le bk93 x.f1 y hy; omega)) (by omega)
  have n3 := fBo_len (num := 3) u2 (by decide) (by omega)
  have h := bp_fill62 11 gp x.f0 A1 c1 x.f1 A2 c2 x.f2 A3 c3 x.f3 _ _ _ _ _ _ _ v acc w0 w hB hg hp g3 l3 (by omega) (put_B (num := 1) (bytesOf x.f0) (by decide) (by rw [bytesOf_length]; omega)) (rfl : _ = tS 1 x.f0) (fun W vq aq k1 k2 k3 => ls_Value x.f1 2 (by decide) A1 c1 w0 g1 l1 (g.2.1.2) (by omega) gp W vq aq hg k1 k2 k3) (by rw [strOf_size u2]; omega) g2 (put_B (num := 3) (bytesOf (strOfNums x.f2)) (by decide) (by rw [bytesOf_length, strOf_size u2]; omega)) (o_eq u2) (by omega)
  have e : acc ++ tS 1 x.f0 ++ (x.f1.flatMap fun y => fB 2 (bValue y)) ++ oB 3 x.f2 ++ x.f3 = acc ++ bEnum x := by unfold bEnum; simp only [List.append_assoc]
  rw [← e]
  exact h
theorem ls_Enum (l : List S60) (num : Int) (hn : 1 ≤ num ∧ num ≤ 536870911) (A : Option Addr) (c : Nat) (w0 : World) (hC : Kd.C k60 w0 A l.length l) (hc : l.length ≤ c) (hg : ∀ y ∈ l, good60 y) (hb : (l.map bk60).sum ≤ 4294967296) :
    Ls 61 62 num (.slice A l.length c) (l.flatMap fun y => fB num (bEnum y)) w0 := by
  have hbe : ∀ y ∈ l, bk60 y ≤ 4294967296 := fun y hy => Nat.le_trans (sum_le bk60 l y hy) hb
  have hll := len_le_sum bk60 (fun y => by unfold bk60; omega) l
  intro gp W vq aq h1 h2 h3 h4
  exact bp_list61 11 gp num A c l bEnum (fun y => fB num (bEnum y)) vq aq w0 W h2 h1 h3 hC hc (fun y hy => ⟨0, put_B _ hn (by have h := len60_ y (hbe y hy); have := hbe y hy; omega)⟩) h4 (by omega) (fun y hy W0 W gq k1 k2 k3 k4 A1 c1 A2 c2 A3 c3 l1 g1 l2 g2 l3 g3 => cn_Enum y (hg y hy) (hbe y hy) W0 _ (k60_mk W0 y l1 g1 l2 g2 l3 g3) W gq _ _ k2 k3 k4 (by have := hbe y hy; simp only [List.length_nil]; omega))
theorem cn_Oneof (x : S86) (g : good86 x) (hb : bk86 x ≤ 4294967296) (w0 : World) (cs : List Value) (hK : k86.K w0 x cs) : Fl 80 cs (bOneof x) (256 * bk86 x) w0 := by
  obtain ⟨A1, c1, A2, c2, rfl, l1, g1, l2, g2⟩ := k86_open hK
  intro w gp v acc hB hg hp hl
  unfold bk86 at hl hb
  rw [sum_one, sum_one] at hl hb
  have u1 : Bytes x.f1 := bytes_of_wf g.2.1.2
  have n1 := fBs_len (num := 1) x.f0 (by decide) (by omega)
  have n2 := fBo_len (num := 2) u1 (by decide) (by omega)
  have h := bp_fill80 11 gp x.f0 A1 c1 x.f1 A2 c2 x.f2 _ _ _ _ _ _ v acc w0 w hB hg hp g2 l2 (by omega) (put_B (num := 1) (bytesOf x.f0) (by decide) (by rw [bytesOf_length]; omega)) (rfl : _ = tS 1 x.f0) (by rw [strOf_size u1]; omega) g1 (put_B (num := 2) (bytesOf (strOfNums x.f1)) (by decide) (by rw [bytesOf_length, strOf_size u1]; omega)) (o_eq u1) (by omega)
  have e : acc ++ tS 1 x.f0 ++ oB 2 x.f1 ++ x.f2 = acc ++ bOneof x := by unfold bOneof; simp only [List.append_assoc]
  rw [← e]
  exact h
theorem ls_Oneof (l : List S86) (num : Int) (hn : 1 ≤ num ∧ num ≤ 536870911) (A : Option Addr) (c : Nat) (w0 : World) (hC : Kd.C k86 w0 A l.length l) (hc : l.length ≤ c) (hg : ∀ y ∈ l, good86 y) (hb : (l.map bk86).sum ≤ 4294967296) :
    Ls 79 80 num (.slice A l.length c) (l.flatMap fun y => fB num (bOneof y)) w0 := by
  have hbe : ∀ y ∈ l, bk86 y ≤ 4294967296 := fun y hy => Nat.le_trans (sum_le bk86 l y hy) hb
  have hll := len_le_sum bk86 (fun y => by unfold bk86; omega) l
  intro gp W vq aq h1 h2 h3 h4
  exact bp_list79 11 gp num A c l bOneof (fun y => fB num (bOneof y)) vq aq w0 W h2 h1 h3 hC hc (fun y hy => ⟨0, put_B _ hn (by have h := len86_ y (hbe y hy); have := hbe y hy; omega)⟩) h4 (by omega) (fun y hy W0 W gq k1 k2 k3 k4 A1 c1 A2 c2 l1 g1 l2 g2 => cn_Oneof y (hg y hy) (hbe y hy) W0 _ (k86_mk W0 y l1 g1 l2 g2) W gq _ _ k2 k3 k4 (by have := hbe y hy; simp only [List.length_nil]; omega))
theorem cn_Method (x : S97) (g : good97 x) (hb : bk97 x ≤ 4294967296) (w0 : World) (cs : List Value) (hK : k97.K w0 x cs) : Fl 86 cs (bMethod x) (256 * bk97 x) w0 := by
  obtain ⟨A5, c5, A6, c6, rfl, l5, g5, l6, g6⟩ := k97_open hK
  intro w gp v acc hB hg hp hl
  unfold bk97 at hl hb
  rw [sum_one, sum_one] at hl hb
  have u5 : Bytes x.f5 := bytes_of_wf g.2.2.2.2.2.1.2
  have n1 := fBs_len (num := 1) x.f0 (by decide) (by omega)
  have n2 := fBs_len (num := 2) x.f1 (by decide) (by omega)
  have n3 := fBs_len (num := 3) x.f2 (by decide) (by omega)
  have n4 := fBo_len (num := 4) u5 (by decide) (by omega)
  have n5 := fN_len (num := 5) 1 (by decide)
  have n6 := fN_len (num := 6) 1 (by decide)
  have h := bp_fill86 11 gp x.f0 x.f1 x.f2 x.f3 x.f4 A5 c5 x.f5 A6 c6 x.f6 _ _ _ _ _ _ _ _ _ _ _ _ _ _ _ _ _ _ v acc w0 w hB hg hp g6 l6 (by omega) (put_B (num := 1) (bytesOf x.f0) (by decide) (by rw [bytesOf_length]; omega)) (rfl : _ = tS 1 x.f0) (by omega) (put_B (num := 2) (bytesOf x.f1) (by decide) (by rw [bytesOf_length]; omega)) (rfl : _ = tS 2 x.f1) (by omega) (put_B (num := 3) (bytesOf x.f2) (by decide) (by rw [bytesOf_length]; omega)) (rfl : _ = tS 3 x.f2) (by rw [strOf_size u5]; omega) g5 (put_B (num := 4) (bytesOf (strOfNums x.f5)) (by decide) (by rw [bytesOf_length, strOf_size u5]; omega)) (o_eq u5) (put_T (num := 5) (by decide)) (rfl : _ = tB 5 x.f3) (put_T (num := 6) (by decide)) (rfl : _ = tB 6 x.f4) (by omega)
  have e : acc ++ tS 1 x.f0 ++ tS 2 x.f1 ++ tS 3 x.f2 ++ oB 4 x.f5 ++ tB 5 x.f3 ++ tB 6 x.f4 ++ x.f6 = acc ++ bMethod x := by unfold bMethod; simp only [List.append_assoc]
  rw [← e]
  exact h
theorem ls_Method (l : List S97) (num : Int) (hn : 1 ≤ num ∧ num ≤ 536870911) (A : Option Addr) (c : Nat) (w0 : World) (hC : Kd.C k97 w0 A l.length l) (hc : l.length ≤ c) (hg : ∀ y ∈ l, good97 y) (hb : (l.map bk97).sum ≤ 4294967296) :
    Ls 85 86 num (.slice A l.length c) (l.flatMap fun y => fB num (bMethod y)) w0 := by
  have hbe : ∀ y ∈ l, bk97 y ≤ 4294967296 := fun y hy => Nat.le_trans (sum_le bk97 l y hy) hb
  have hll := len_le_sum bk97 (fun y => by unfold bk97; omega) l
  intro gp W vq aq h1 h2 h3 h4
  exact bp_list85 11 gp num A c l bMethod (fun y => fB num (bMethod y)) vq aq w0 W h2 h1 h3 hC hc (fun y hy => ⟨0, put_B _ hn (by have h := len97_ y (hbe y hy); have := hbe y hy; omega)⟩) h4 (by omega) (fun y hy W0 W gq k1 k2 k3 k4 A5 c5 A6 c6 l5 g5 l6 g6 => cn_Method y (hg y hy) (hbe y hy) W0 _ (k97_mk W0 y l5 g5 l6 g6) W gq _ _ k2 k3 k4 (by have := hbe y hy; simp only [List.length_nil]; omega))
theorem cn_Service (x : S65) (g : good65 x) (hb : bk65 x ≤ 4294967296) (w0 : World) (cs : List Value) (hK : k65.K w0 x cs) : Fl 64 cs (bService x) (256 * bk65 x) w0 := by
  obtain ⟨A1, c1, A2, c2, A3, c3, rfl, l1, g1, l2, g2, l3, g3⟩ := k65_open hK
  intro w gp v acc hB hg hp hl
  unfold bk65 at hl hb
  rw [sum_one, sum_one] at hl hb
  have u2 : Bytes x.f2 := bytes_of_wf g.2.2.1.2
  have n1 := fBs_len (num := 1) x.f0 (by decide) (by omega)
  have n2 := flat_len bk97 2 bMethod (by decide) x.f1 (fun y hy => len97_ y (by have := sum_le bk97 x.f1 y hy; omega)) (by omega)
  have n3 := fBo_len (num := 3) u2 (by decide) (by omega)
  have h := bp_fill64 11 gp x.f0 A1 c1 x.f1 A2 c2 x.f2 A3 c3 x.f3 _ _ _ _ _ _ _ v acc w0 w hB hg hp g3 l3 (by omega) (put_B (num := 1) (bytesOf x.f0) (by decide) (by rw [bytesOf_length]; omega)) (rfl : _ = tS 1 x.f0) (fun W vq aq k1 k2 k3 => ls_Method x.f1 2 (by decide) A1 c1 w0 g1 l1 (g.2.1.2) (by omega) gp W vq aq hg k1 k2 k3) (by rw [strOf_size u2]; omega) g2 (put_B (num := 3) (bytesOf (strOfNums x.f2)) (by decide) (by rw [bytesOf_length, strOf_size u2]; omega)) (o_eq u2) (by omega)
  have e : acc ++ tS 1 x.f0 ++ (x.f1.flatMap fun y => fB 2 (bMethod y)) ++ oB 3 x.f2 ++ x.f3 = acc ++ bService x := by unfold bService; simp only [List.append_assoc]
  rw [← e]
  exact h
theorem ls_Service (l : List S65) (num : Int) (hn : 1 ≤ num ∧ num ≤ 536870911) (A : Option Addr) (c : Nat) (w0 : World) (hC : Kd.C k65 w0 A l.length l) (hc : l.length ≤ c) (hg : ∀ y ∈ l, good65 y) (hb : (l.map bk65).sum ≤ 4294967296) :
    Ls 63 64 num (.slice A l.length c) (l.flatMap fun y => fB num (bService y)) w0 := by
  have hbe : ∀ y ∈ l, bk65 y ≤ 4294967296 := fun y hy => Nat.le_trans (sum_le bk65 l y hy) hb
  have hll := len_le_sum bk65 (fun y => by unfold bk65; omega) l
  intro gp W vq aq h1 h2 h3 h4
  exact bp_list63 11 gp num A c l bService (fun y => fB num (bService y)) vq aq w0 W h2 h1 h3 hC hc (fun y hy => ⟨0, put_B _ hn (by have h := len65_ y (hbe y hy); have := hbe y hy; omega)⟩) h4 (by omega) (fun y hy W0 W gq k1 k2 k3 k4 A1 c1 A2 c2 A3 c3 l1 g1 l2 g2 l3 g3 => cn_Service y (hg y hy) (hbe y hy) W0 _ (k65_mk W0 y l1 g1 l2 g2 l3 g3) W gq _ _ k2 k3 k4 (by have := hbe y hy; simp only [List.length_nil]; omega))
def CnMessage (x : S37) : Prop := ∀ (g : good37 x) (hb : bk37 x ≤ 4294967296) (w0 : World) (cs : List Value) (hK : k37.K w0 x cs), Fl 60 cs (bMessage x) (256 * bk37 x) w0
theorem ls_Message_ (l : List S37) (hcn : ∀ y ∈ l, CnMessage y) (num : Int) (hn : 1 ≤ num ∧ num ≤ 536870911) (A : Option Addr) (c : Nat) (w0 : World) (hC : Kd.C k37 w0 A l.length l) (hc : l.length ≤ c) (hg : ∀ y ∈ l, good37 y) (hb : (l.map bk37).sum ≤ 4294967296) :
    Ls 59 60 num (.slice A l.length c) (l.flatMap fun y => fB num (bMessage y)) w0 := by
  have hbe : ∀ y ∈ l, bk37 y ≤ 4294967296 := fun y hy => Nat.le_trans (sum_le bk37 l y hy) hb
  have hll := len_le_sum bk37 (fun y => by rw [bk37_eq]; omega) l
  intro gp W vq aq h1 h2 h3 h4
  exact bp_list59 11 gp num A c l bMessage (fun y => fB num (bMessage y)) vq aq w0 W h2 h1 h3 hC hc (fun y hy => ⟨0, put_B _ hn (by have h := len37_ y (hbe y hy); have := hbe y hy; omega)⟩) h4 (by omega) (fun y hy W0 W gq k1 k2 k3 k4 A1 c1 A2 c2 A3 c3 A4 c4 A5 c5 A6 c6 A7 c7 A8 c8 A9 c9 A10 c10 l1 g1 l2 g2 l3 g3 l4 g4 l5 g5 l6 g6 l7 g7 l8 g8 l9 g9 l10 g10 => hcn y hy (hg y hy) (hbe y hy) W0 _ (k37_mk W0 y l1 g1 l2 g2 l3 g3 l4 g4 l5 g5 l6 g6 l7 g7 l8 g8 l9 g9 l10 g10) W gq _ _ k2 k3 k4 (by have := hbe y hy; simp only [List.length_nil]; omega))
theorem cn_Message : ∀ x : S37, CnMessage x := by
  refine S37.ind fun x ih => ?_
  intro g hb w0 cs hK
  obtain ⟨A1, c1, A2, c2, A3, c3, A4, c4, A5, c5, A6, c6, A7, c7, A8, c8, A9, c9, A10, c10, rfl, l1, g1, l2, g2, l3, g3, l4, g4, l5, g5, l6, g6, l7, g7, l8, g8, l9, g9, l10, g10⟩ := k37_open hK
  rw [good37] at g
  intro w gp v acc hB hg hp hl
  rw [bk37_eq] at hl hb
  rw [sum_one, sum_one] at hl hb
  have u9 : Bytes x.f9 := bytes_of_wf g.2.2.2.2.2.2.2.2.2.1.2
  have n1 := fBs_len (num := 1) x.f0 (by decide) (by omega)
  have n2 := flat_len bk69 2 bField (by decide) x.f1 (fun y hy => len69_ y (by have := sum_le bk69 x.f1 y hy; omega)) (by omega)
  have n3 := flat_len bk37 3 bMessage (by decide) x.f2 (fun y hy => len37_ y (by have := sum_le bk37 x.f2 y hy; omega)) (by omega)
  have n4 := flat_len bk60 4 bEnum (by decide) x.f3 (fun y hy => len60_ y (by have := sum_le bk60 x.f3 y hy; omega)) (by omega)
  have n5 := flat_len bk90 5 bRange (by decide) x.f4 (fun y hy => len90_ y) (by omega)
  have n6 := flat_len bk69 6 bField (by decide) x.f5 (fun y hy => len69_ y (by have := sum_le bk69 x.f5 y hy; omega)) (by omega)
  have n7 := fBo_len (num := 7) u9 (by decide) (by omega)
  have n8 := flat_len bk86 8 bOneof (by decide) x.f6 (fun y hy => len86_ y (by have := sum_le bk86 x.f6 y hy; omega)) (by omega)
  have n9 := flat_len bk90 9 bRange (by decide) x.f7 (fun y hy => len90_ y) (by omega)
  have n10 := words_len 10 (by decide) x.f8 (by omega)
  have h := bp_fill60 11 gp x.f0 A1 c1 x.f1 A2 c2 x.f2 A3 c3 x.f3 A4 c4 x.f4 A5 c5 x.f5 A6 c6 x.f6 A7 c7 x.f7 A8 c8 x.f8 A9 c9 x.f9 A10 c10 x.f10 _ _ _ _ _ _ _ _ _ _ _ _ _ _ v acc w0 w hB hg hp g10 l10 (by omega) (put_B (num := 1) (bytesOf x.f0) (by decide) (by rw [bytesOf_length]; omega)) (rfl : _ = tS 1 x.f0) (fun W vq aq k1 k2 k3 => ls_Field x.f1 2 (by decide) A1 c1 w0 g1 l1 (g.2.1.2) (by omega) gp W vq aq hg k1 k2 k3) (fun W vq aq k1 k2 k3 => ls_Message_ x.f2 ih 3 (by decide) A2 c2 w0 g2 l2 (g.2.2.1.2) (by omega) gp W vq aq hg k1 k2 k3) (fun W vq aq k1 k2 k3 => ls_Enum x.f3 4 (by decide) A3 c3 w0 g3 l3 (g.2.2.2.1.2) (by omega) gp W vq aq hg k1 k2 k3) (fun W vq aq k1 k2 k3 => ls_Range x.f4 5 (by decide) A4 c4 w0 g4 l4 (by omega) gp W vq aq hg k1 k2 k3) (fun W vq aq k1 k2 k3 => ls_Field x.f5 6 (by decide) A5 c5 w0 g5 l5 (g.2.2.2.2.2.1.2) (by omega) gp W vq aq hg k1 k2 k3) (by rw [strOf_size u9]; omega) g9 (put_B (num := 7) (bytesOf (strOfNums x.f9)) (by decide) (by rw [bytesOf_length, strOf_size u9]; omega)) (o_eq u9) (fun W vq aq k1 k2 k3 => ls_Oneof x.f6 8 (by decide) A6 c6 w0 g6 l6 (g.2.2.2.2.2.2.1.2) (by omega) gp W vq aq hg k1 k2 k3) (fun W vq aq k1 k2 k3 => ls_Range x.f7 9 (by decide) A7 c7 w0 g7 l7 (by omega) gp W vq aq hg k1 k2 k3) (fun W vq aq k1 k2 k3 => ls_text x.f8 10 (by decide) A8 c8 w0 g8 l8 (by omega) gp W vq aq hg k1 k2 k3) (by omega)
  have e : acc ++ tS 1 x.f0 ++ (x.f1.flatMap fun y => fB 2 (bField y)) ++ (x.f2.flatMap fun y => fB 3 (bMessage y)) ++ (x.f3.flatMap fun y => fB 4 (bEnum y)) ++ (x.f4.flatMap fun y => fB 5 (bRange y)) ++ (x.f5.flatMap fun y => fB 6 (bField y)) ++ oB 7 x.f9 ++ (x.f6.flatMap fun y => fB 8 (bOneof y)) ++ (x.f7.flatMap fun y => fB 9 (bRange y)) ++ (x.f8.flatMap fun y => fB 10 (bytesOf y)) ++ x.f10 = acc ++ bMessage x := by rw [bMessage_eq]; simp only [List.append_assoc]
  rw [← e]
  exact h
theorem ls_Message (l : List S37) (num : Int) (hn : 1 ≤ num ∧ num ≤ 536870911) (A : Option Addr) (c : Nat) (w0 : World) (hC : Kd.C k37 w0 A l.length l) (hc : l.length ≤ c) (hg : ∀ y ∈ l, good37 y) (hb : (l.map bk37).sum ≤ 4294967296) :
    Ls 59 60 num (.slice A l.length c) (l.flatMap fun y => fB num (bMessage y)) w0 := by
  have hbe : ∀ y ∈ l, bk37 y ≤ 4294967296 := fun y hy => Nat.le_trans (sum_le bk37 l y hy) hb
  have hll := len_le_sum bk37 (fun y => by rw [bk37_eq]; omega) l
  intro gp W vq aq h1 h2 h3 h4
  exact bp_list59 11 gp num A c l bMessage (fun y => fB num (bMessage y)) vq aq w0 W h2 h1 h3 hC hc (fun y hy => ⟨0, put_B _ hn (by have h := len37_ y (hbe y hy); have := hbe y hy; omega)⟩) h4 (by omega) (fun y hy W0 W gq k1 k2 k3 k4 A1 c1 A2 c2 A3 c3 A4 c4 A5 c5 A6 c6 A7 c7 A8 c8 A9 c9 A10 c10 l1 g1 l2 g2 l3 g3 l4 g4 l5 g5 l6 g6 l7 g7 l8 g8 l9 g9 l10 g10 => cn_Message y (hg y hy) (hbe y hy) W0 _ (k37_mk W0 y l1 g1 l2 g2 l3 g3 l4 g4 l5 g5 l6 g6 l7 g7 l8 g8 l9 g9 l10 g10) W gq _ _ k2 k3 k4 (by have := hbe y hy; simp only [List.length_nil]; omega))
theorem cn_File (x : S30) (g : good30 x) (hb : bk30 x ≤ 4294967296) (w0 : World) (cs : List Value) (hK : k30.K w0 x cs) : Fl 38 cs (bFile x) (256 * bk30 x) w0 := by
  obtain ⟨A2, c2, A3, c3, A4, c4, A5, c5, A6, c6, A7, c7, A9, c9, A10, c10, rfl, l2, g2, l3, g3, l4, g4, l5, g5, l6, g6, l7, g7, l9, g9, l10, g10⟩ := k30_open hK
  intro w gp v acc hB hg hp hl
  unfold bk30 at hl hb
  rw [sum_one, sum_one, sum_one] at hl hb
  have u9 : Bytes x.f9 := bytes_of_wf g.2.2.2.2.2.2.2.2.2.1.2
  have n1 := fBs_len (num := 1) x.f0 (by decide) (by omega)
  have n2 := fBs_len (num := 2) x.f1 (by decide) (by omega)
  have n3 := words_len 3 (by decide) x.f2 (by omega)
  have n4 := flat_len bk37 4 bMessage (by decide) x.f4 (fun y hy => len37_ y (by have := sum_le bk37 x.f4 y hy; omega)) (by omega)
  have n5 := flat_len bk60 5 bEnum (by decide) x.f5 (fun y hy => len60_ y (by have := sum_le bk60 x.f5 y hy; omega)) (by omega)
  have n6 := flat_len bk65 6 bService (by decide) x.f6 (fun y hy => len65_ y (by have := sum_le bk65 x.f6 y hy; omega)) (by omega)
  have n7 := flat_len bk69 7 bField (by decide) x.f7 (fun y hy => len69_ y (by have := sum_le bk69 x.f7 y hy; omega)) (by omega)
  have n8 := fBo_len (num := 8) u9 (by decide) (by omega)
  have n9 := nums_len 10 (by decide) x.f3
  have n10 := fBs_len (num := 12) x.f8 (by decide) (by omega)
  have h := bp_fill38 11 gp x.f0 x.f1 A2 c2 x.f2 A3 c3 x.f3 A4 c4 x.f4 A5 c5 x.f5 A6 c6 x.f6 A7 c7 x.f7 x.f8 A9 c9 x.f9 A10 c10 x.f10 _ _ _ _ _ _ _ _ _ _ _ _ _ _ _ _ _ _ v acc w0 w hB hg hp g10 l10 (by omega) (put_B (num := 1) (bytesOf x.f0) (by decide) (by rw [bytesOf_length]; omega)) (rfl : _ = tS 1 x.f0) (by omega) (put_B (num := 2) (bytesOf x.f1) (by decide) (by rw [bytesOf_length]; omega)) (rfl : _ = tS 2 x.f1) (fun W vq aq k1 k2 k3 => ls_text x.f2 3 (by decide) A2 c2 w0 g2 l2 (by omega) gp W vq aq hg k1 k2 k3) (fun W vq aq k1 k2 k3 => ls_Message x.f4 4 (by decide) A4 c4 w0 g4 l4 (g.2.2.2.2.1.2) (by omega) gp W vq aq hg k1 k2 k3) (fun W vq aq k1 k2 k3 => ls_Enum x.f5 5 (by decide) A5 c5 w0 g5 l5 (g.2.2.2.2.2.1.2) (by omega) gp W vq aq hg k1 k2 k3) (fun W vq aq k1 k2 k3 => ls_Service x.f6 6 (by decide) A6 c6 w0 g6 l6 (g.2.2.2.2.2.2.1.2) (by omega) gp W vq aq hg k1 k2 k3) (fun W vq aq k1 k2 k3 => ls_Field x.f7 7 (by decide) A7 c7 w0 g7 l7 (g.2.2.2.2.2.2.2.1.2) (by omega) gp W vq aq hg k1 k2 k3) (by rw [strOf_size u9]; omega) g9 (put_B (num := 8) (bytesOf (strOfNums x.f9)) (by decide) (by rw [bytesOf_length, strOf_size u9]; omega)) (o_eq u9) (fun y => fN 10 y) (fun y _ => ⟨0, put_N y (by decide)⟩) rfl g3 (by omega) (by omega) (put_B (num := 12) (bytesOf x.f8) (by decide) (by rw [bytesOf_length]; omega)) (rfl : _ = tS 12 x.f8) (by omega)
  have e : acc ++ tS 1 x.f0 ++ tS 2 x.f1 ++ (x.f2.flatMap fun y => fB 3 (bytesOf y)) ++ (x.f4.flatMap fun y => fB 4 (bMessage y)) ++ (x.f5.flatMap fun y => fB 5 (bEnum y)) ++ (x.f6.flatMap fun y => fB 6 (bService y)) ++ (x.f7.flatMap fun y => fB 7 (bField y)) ++ oB 8 x.f9 ++ (x.f3.flatMap fun y => fN 10 y) ++ tS 12 x.f8 ++ x.f10 = acc ++ bFile x := by unfold bFile; simp only [List.append_assoc]
  rw [← e]
  exact h
end Go.Proofs.Yticnihfjnjliiaa.Cn
