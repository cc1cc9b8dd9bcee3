/- The reference's parts: what each function answers. -/
import Derived.Test.YticnihfjnjliiaaKRv
import Derived.Test.YticnihfjnjliiaaKSp
import Derived.LoopN
import Derived.RegionTactic
namespace Go.Proofs.Yticnihfjnjliiaa.R1
open Go.RowKit Go.Proofs.Yticnihfjnjliiaa.GDescGrows Go.Proofs.Yticnihfjnjliiaa.Rp Go.Proofs.Yticnihfjnjliiaa.Rq Go.Proofs.YticnihfjnjliiaaW.PrintWords Go.Proofs.YticnihfjnjliiaaW.PrintLast Go.Proofs.YticnihfjnjliiaaW.PrintMore Go.Proofs.Yticnihfjnjliiaa.Vb Go.Proofs.Yticnihfjnjliiaa.Wr Go.Proofs.Yticnihfjnjliiaa.Wp Go.Proofs.Yticnihfjnjliiaa.Rk Go.Proofs.Yticnihfjnjliiaa.Sp
set_option linter.unusedVariables false
set_option linter.unusedSimpArgs false
def Ret_ (bs : List Int) (w : World) (e : Ending) (w' : World) : Prop := ∃ v, e = .returned v ∧ Kd.R (Kd.int .u8) 5 w' w.heap.size (fun _ => True) v bs ∧ Below w.heap.size w w'
theorem cv_run (s : ByteArray) : ∀ w : World, Sem.run Try.prog (convert 9 28 (.string s)) w = .ok (.slice (some ⟨w.heap.size, 0, none⟩) s.size (grownCap w s.size 0 5)) (Go.Lib.bytesWorld w 5 s) := fun w => Go.Lib.run_convert_string_bytes w 9 28 5 s Try.underlying9 Try.underlying28 Try.underlying5
theorem cv_below (w : World) (s : ByteArray) : Below w.heap.size w (Go.Lib.bytesWorld w 5 s) := ⟨rfl, rfl, rfl, by rw [Go.Lib.bytesWorld_size]; exact Nat.le_succ _, fun k hk => Go.Lib.bytesWorld_at_old w 5 _ k hk⟩
theorem cv_cap (w : World) (s : ByteArray) : (bytesOf s).length ≤ grownCap w s.size 0 5 := by rw [bytesOf_length]; exact grownCap_ge w s.size 0 5
theorem cv_C (w : World) (s : ByteArray) (hs : s.size ≤ 9223372036854775807) : Kd.C (Kd.int .u8) (Go.Lib.bytesWorld w 5 s) (some ⟨w.heap.size, 0, none⟩) (bytesOf s).length (bytesOf s) := by
 refine ⟨rfl, by rw [bytesOf_length]; exact hs, fun _ => ⟨_, rfl, fun j p hj => ?_⟩⟩
 have hjl : j < s.size := by have := (List.getElem?_eq_some_iff.1 hj).1; rw [bytesOf_length] at this; exact this
 have hp : p = ((s.data.toList.getD j 0).toNat : Int) := by
  unfold bytesOf at hj
  rw [List.getElem?_map] at hj
  obtain ⟨b, hb, rfl⟩ := Option.map_eq_some_iff.1 hj
  rw [List.getD_eq_getElem?_getD, hb]
  rfl
 refine ⟨[.int .u8 p], rfl, rfl, fun i u hi => ?_⟩
 match i, hi with
 | 0, hi =>
  obtain rfl : Value.int .u8 p = u := Option.some.inj hi
  rw [show (⟨w.heap.size, 0, none⟩ : Addr).add (j * (Kd.int .u8).sz + 0) = ⟨w.heap.size, j, none⟩ from by
   show (⟨w.heap.size, 0, none⟩ : Addr).add (j * 1 + 0) = _
   unfold Addr.add
   split <;> simp_all, hp]
  exact Go.Lib.bytesWorld_cell w 5 s j hjl
 | i + 1, hi => exact absurd hi (by simp)
set_option maxHeartbeats 4000000 in
set_option maxRecDepth 100000 in
theorem part_c (num : Int) (b : List Int) (A : Option Addr) (c : Nat) (w : World) (hn : 1 ≤ num ∧ num ≤ 536870911) (hb : b.length ≤ 1099511627776) (hC : Kd.C (Kd.int .u8) w A b.length b) (hc : b.length ≤ c) :
 Calls Try.prog 71 #[.int .i64 num, .slice A b.length c] w fun e w' => Ret_ (fB num b) w e w' := by
 have HN := mk0 hn
 have HZ := mk0 hb
 clear hn hb
 go_enter Try.func71, Try.ntmps71
 go_wp2_with (first | (go_at_call 70; refine (rput2_c num b A c _ HN.out HZ.out hC hc).mono ?_; rintro e w1 ⟨v, rfl, h1, h2⟩))
 go_ret
 exact ⟨_, rfl, h1, h2⟩
set_option maxHeartbeats 4000000 in
set_option maxRecDepth 100000 in
theorem number_c (num n : Int) (w : World) (hn : 1 ≤ num ∧ num ≤ 536870911) : Calls Try.prog 47 #[.int .i64 num, .int .i64 n] w fun e w' => Ret_ (fN num n) w e w' := by
 have HN := mk0 hn
 clear hn
 go_enter Try.func47, Try.ntmps47
 go_wp2_with (first | (go_at_call 70; refine (rput0_c num n _ HN.out).mono ?_; rintro e w1 ⟨v, rfl, h1, h2⟩))
 go_ret
 exact ⟨_, rfl, h1, h2⟩
set_option maxHeartbeats 4000000 in
set_option maxRecDepth 100000 in
theorem text_c (num : Int) (x : ByteArray) (w : World) (hn : 1 ≤ num ∧ num ≤ 536870911) (hx : x.size ≤ 1099511627776) : Calls Try.prog 49 #[.int .i64 num, .string x] w fun e w' => Ret_ (tS num x) w e w' := by
 by_cases h0 : x.size = 0
 · have ht : Aside0 (tS num x = []) := ⟨by unfold tS; rw [if_pos h0]⟩
   obtain rfl : x = ⟨#[]⟩ := by cases x; congr; exact Array.eq_empty_of_size_eq_zero h0
   go_enter Try.func49, Try.ntmps49
   go_wp2
   go_ret
   exact ⟨_, rfl, by rw [ht.out]; exact Kd.R_nil _ _ _ _ _, Below.refl _ _⟩
 · have ht : Aside0 (tS num x = fB num (bytesOf x)) := ⟨by unfold tS; rw [if_neg h0]⟩
   have hcv := cv_run x
   have hne : (x.toList == ([] : List UInt8)) = false := by
    rw [Go.ByteArray.toList_eq]
    refine beq_eq_false_iff_ne.2 fun h => h0 ?_
    have := congrArg List.length h
    rwa [Array.length_toList] at this
   have hp := fun w1 => part_c num (bytesOf x) (some ⟨w1.heap.size, 0, none⟩) (grownCap w1 x.size 0 5) (Go.Lib.bytesWorld w1 5 x) hn (by rw [bytesOf_length]; exact hx) (cv_C w1 x (by omega)) (cv_cap w1 x)
   simp only [bytesOf_length] at hp
   go_enter Try.func49, Try.ntmps49
   go_wp2_with (first | (go_at_call 71; (with_reducible refine (hp _).mono ?_); rintro e w2 ⟨v, rfl, h1, h2⟩))
   go_ret
   exact ⟨_, rfl, by rw [ht.out]; exact Kd.R_lower h1 (cv_below w x).size, below_then (cv_below w x) (cv_below w x).size h2⟩
set_option maxHeartbeats 4000000 in
set_option maxRecDepth 100000 in
theorem bytes_c (num : Int) (b : List Int) (A : Option Addr) (c : Nat) (w : World) (hn : 1 ≤ num ∧ num ≤ 536870911) (hb : b.length ≤ 1099511627776) (hu : Bytes b) (hC : Kd.C (Kd.int .u8) w A b.length b) :
 Calls Try.prog 55 #[.int .i64 num, .slice A b.length c] w fun e w' => Ret_ (oB num b) w e w' := by
 have hcv := Kd.C_string (P := Try.prog) (c := c) Try.underlying28 Try.underlying5 Try.underlying9 hC
 have ht := mk0 (o_eq (num := num) hu)
 have hp := text_c num (strOfNums b) w hn (by rw [strOf_size hu]; exact hb)
 clear hu
 go_enter Try.func55, Try.ntmps55
 go_wp2_with (first | (go_at_call 49; (with_reducible refine hp.mono ?_); rintro e w2 ⟨v, rfl, h1, h2⟩))
 go_ret
 exact ⟨_, rfl, by rw [← ht.out]; exact h1, h2⟩
set_option maxHeartbeats 4000000 in
set_option maxRecDepth 100000 in
theorem some_c (num n : Int) (w : World) (hn : 1 ≤ num ∧ num ≤ 536870911) : Calls Try.prog 96 #[.int .i64 num, .int .i64 n] w fun e w' => Ret_ (sN num n) w e w' := by
 have hp := number_c num n w hn
 by_cases h0 : n = 0
 · have ht : Aside0 (sN num n = []) := ⟨by unfold sN; rw [if_pos h0]⟩
   have h1 : (n == 0) = true := beq_iff_eq.mpr h0
   clear h0
   go_enter Try.func96, Try.ntmps96
   go_wp2
   go_ret
   exact ⟨_, rfl, by rw [ht.out]; exact Kd.R_nil _ _ _ _ _, Below.refl _ _⟩
 · have ht : Aside0 (sN num n = fN num n) := ⟨by unfold sN; rw [if_neg h0]⟩
   have h1 : (n == 0) = false := beq_eq_false_iff_ne.mpr h0
   clear h0
   go_enter Try.func96, Try.ntmps96
   go_wp2_with (first | (go_at_call 47; (with_reducible refine hp.mono ?_); rintro e w2 ⟨v, rfl, h1, h2⟩))
   go_ret
   exact ⟨_, rfl, by rw [ht.out]; exact h1, h2⟩
set_option maxHeartbeats 4000000 in
set_option maxRecDepth 100000 in
theorem truth_c (num : Int) (is : Bool) (w : World) (hn : 1 ≤ num ∧ num ≤ 536870911) : Calls Try.prog 73 #[.int .i64 num, .bool is] w fun e w' => Ret_ (tB num is) w e w' := by
 have hp := number_c num 1 w hn
 cases is with
 | false =>
  go_enter Try.func73, Try.ntmps73
  go_wp2
  go_ret
  exact ⟨_, rfl, Kd.R_nil _ _ _ _ _, Below.refl _ _⟩
 | true =>
  go_enter Try.func73, Try.ntmps73
  go_wp2_with (first | (go_at_call 47; (with_reducible refine hp.mono ?_); rintro e w2 ⟨v, rfl, h1, h2⟩))
  go_ret
  exact ⟨_, rfl, h1, h2⟩
theorem cat_step (l : List (List Int)) (i : Nat) (h : i < l.length) : (l.take (i + 1)).flatten = (l.take i).flatten ++ l.getD i [] ∧ ((l.take i).flatten).length + (l.getD i []).length ≤ l.flatten.length := by
 have e : (l.take (i + 1)).flatten = (l.take i).flatten ++ l.getD i [] := by
  rw [List.take_add_one, List.getElem?_eq_getElem h, List.flatten_append]
  simp [h]
 refine ⟨e, ?_⟩
 have h1 := congrArg List.length e
 have h2 : l.flatten = (l.take (i + 1)).flatten ++ (l.drop (i + 1)).flatten := by rw [← List.flatten_append, List.take_append_drop]
 have h3 := congrArg List.length h2
 rw [List.length_append] at h1 h3
 omega
set_option maxHeartbeats 4000000 in
set_option maxRecDepth 100000 in
theorem all_c (l : List (List Int)) (A : Option Addr) (c : Nat) (w : World) (hC : Kd.C (Kd.slice 5 (Kd.int .u8)) w A l.length l) (hl : l.flatten.length < 140737488355328) (hll : l.length < 1000000) :
 Calls Try.prog 48 #[.slice A l.length c] w fun e w' => Ret_ l.flatten w e w' := by
 have HC := mk0 hC
 have HL := mk0 hl
 have HB0 := mk0 (Below.refl w.heap.size w)
 clear hl
 go_enter Try.func48, Try.ntmps48
 go_wp2
 go_loopg [3, 8] l.length (fun kq v3 v8 w' => ∃ i : Nat, v8 = .int .i64 (i : Int) ∧ Aside0 (i + kq = l.length) ∧ Aside0 (Kd.R (Kd.int .u8) 5 w' w.heap.size (fun _ => True) v3 (l.take i).flatten) ∧ Aside0 (Below w.heap.size w w'))
 case atStart => exact ⟨0, rfl, ⟨by omega⟩, ⟨Kd.R_nil _ _ _ _ _⟩, ⟨HB0.out⟩⟩
 case round =>
  obtain ⟨i, rfl, HI, HR, HB⟩ := hrel
  obtain ⟨Av, cv, ev⟩ := Kd.R_slice HR.out
  subst ev
  by_cases hlt : i < l.length
  · have hwp : wrap64 ((i : Int) + 1) = ((i + 1 : Nat) : Int) := by unfold wrap64; omega
    have d0 : decide ((i : Int) < (l.length : Int)) = true := decide_eq_true (by omega)
    have p0 : (0 ≤ (i : Int)) = True := eq_true (by omega)
    have q0 : ((i : Int) < (l.length : Int)) = True := eq_true (by omega)
    have HT := mk0 (cat_step l i hlt)
    obtain ⟨x, hx⟩ : ∃ x, l.getD i [] = x := ⟨_, rfl⟩
    rw [hx] at HT
    obtain ⟨ad, cc, ea, _, hKx, hcc⟩ := Kd.C_get (Kd.C_below hC HB.out) [] (i : Int) (by omega) (by omega)
    rw [Int.toNat_natCast] at hKx hcc
    rw [hx] at hKx
    obtain ⟨Ax, cx, ecc, lx, gx⟩ := hKx
    subst ecc
    have e0 : wr.cell? (ad.add i) = some (.slice Ax x.length cx) := by have := hcc 0 _ rfl; rwa [show i * (Kd.slice 5 (Kd.int .u8)).sz + 0 = i from by show i * 1 + 0 = i; omega] at this
    have HX := mk0 gx
    clear hx hcc
    subst ea
    cases gk with
    | zero => exact absurd HI.out (by omega)
    | succ k1 =>
     go_wp2_with (first | ((with_reducible refine gate_builtin (b := .append) (xs := #[.tmp 12, .tmp 13]) rfl ?_); (try (refine gate_guard (by rfl) ?_; dsimp only)); at_builtin; refine Kd.R_append_rows (Kd.int .u8) (w0 := w) w.heap.size rfl (.tmp 12) (.tmp 13) 28 5 (.int .u8 0) 1 rfl Try.underlying28 GDescGrows.info5 rfl (by decide) (by omega) (.slice Av (l.take i).flatten.length cv) (l.take i).flatten x _ _ _ (fun _ => True) (fun _ => False) rfl rfl ?aO ?aR (fun _ _ h => h) (fun _ h => h.elim) ?aF ?aB ?aS ?aL ?_; (case aR => exact HX.out); (case aB => exact HB.out); (case aF => exact fun _ _ => trivial); (case aO => exact HR.out); (case aS => exact HB.out.size); (case aL => have h1 := HT.out.2; have h2 := HL.out; omega); intro v1 w2 ho2 hb2 hg2 hat2))
     go_roundg k1
     case measure => exact Nat.lt_succ_self k1
     case rel => exact ⟨i + 1, (by first | rfl | (rw [hwp]) | (simp [hwp]; done)), ⟨by have := HI.out; omega⟩, ⟨by rw [HT.out.1]; exact ho2⟩, ⟨hb2⟩⟩
  · have d0 : decide ((i : Int) < (l.length : Int)) = false := decide_eq_false (by omega)
    rw [List.take_of_length_le (by omega)] at HR
    have HR' := HR
    clear HR
    rw [List.take_of_length_le (by omega)]
    go_wp2
    go_ret
    exact ⟨_, rfl, HR'.out, HB.out⟩
end Go.Proofs.Yticnihfjnjliiaa.R1
